import Derived.Test.YtchmaojmknfbpaaBase
import Derived.Test.YtchmaojmknfbpaaSxImplTree
import Derived.Test.YtchmaojmknfbpaaSxImplSmall
import Derived.Test.YtchmaojmknfbpaaSx0
import Derived.Test.YtchmaojmknfbpaaSxImplIsProofY
import Derived.Test.YtchmaojmknfbpaaSxImplPathLength
import Derived.Test.YtchmaojmknfbpaaSxImplAreDigestsY
import Derived.Test.YtchmaojmknfbpaaSxSpecTree
import Derived.Test.YtchmaojmknfbpaaSxSpecL1
import Derived.Test.YtchmaojmknfbpaaSxLawsHelp
import Derived.Test.YtchmaojmknfbpaaSxLawsHelpSS
import Derived.Test.YtchmaojmknfbpaaSxSpecL3RightY
import Derived.Test.YtchmaojmknfbpaaSxSpecPathLength
import Derived.Test.YtchmaojmknfbpaaSxImplPackedY
import Derived.Test.YtchmaojmknfbpaaSxSpecL1P
import Derived.Test.YtchmaojmknfbpaaSxImplPackWords
import Derived.Test.YtchmaojmknfbpaaSxSpecPackWords
import Derived.WalkSpells
import Derived.Laws.Tables
import Derived.Laws.CopyOwn
import Derived.Test.YtchmaojmknfbpaaSxImplSignatureIsPlacedM
import Derived.Test.YtchmaojmknfbpaaSxSpecPackSign
import Derived.Test.YtchmaojmknfbpaaSxSpecL4RightY
import Derived.Test.YtchmaojmknfbpaaSxLawsHelpR
import Derived.Test.YtchmaojmknfbpaaSxLawsToSignatureY
import Derived.Test.YtchmaojmknfbpaaSxLawsSzSignatureY
import Derived.Test.YtchmaojmknfbpaaSxLawsEqSignatureY
/- How a tree is split, and on which side the other parts are: the program's splitAt and sides and the reference's l3Split and l3Sides agree for 1 to 16 leaves. -/
set_option linter.unusedVariables false
namespace Go.Proofs.Ytchmaojmknfbpaa.S
open Go.RowKit Go.Proofs.YtchmaojmknfbpaaW.PrintWords Go.Proofs.YtchmaojmknfbpaaW.PrintLast Go.Proofs.YtchmaojmknfbpaaW.PrintMore Go.Proofs.Ytchmaojmknfbpaa.Base

def splitV (n : Int) : Int := if n ≤ 2 then 1 else if n ≤ 4 then 2 else if n ≤ 8 then 4 else 8
theorem splitV_range {n : Int} (h : 2 ≤ n) (h1 : n ≤ 16) : 1 ≤ splitV n ∧ splitV n < n ∧ splitV n ≤ 8 ∧ n - splitV n ≤ 8 := by
  unfold splitV
  repeat' split
  all_goals omega
theorem wd (x : Int) (h0 : 0 ≤ x) (h1 : x ≤ 16) : wrap64 (2 * x) = 2 * x := w64 (by omega) (by omega)
theorem wd' (x : Int) (h0 : 0 ≤ x) (h1 : x ≤ 16) : wrap64 (x * 2) = 2 * x := by rw [w64 (by omega) (by omega)]; omega
theorem impl_split_ev {n : Int} (h : 2 ≤ n) (h1 : n ≤ 16) : Ev (fun k => impl_splitAt.f k n) (splitV n) := by
  unfold impl_splitAt.f splitV
  refine ev_step (fun k => impl_splitAt.l0.eq_2 _ _ _) ?_
  rw [wd 1 (by omega) (by omega), wd' 1 (by omega) (by omega)]
  by_cases c1 : n ≤ 2
  · rw [if_pos c1]; exact ev_neg (by omega) (ev_now rfl)
  rw [if_neg c1]; refine ev_pos (by omega) ?_
  refine ev_step (fun k => impl_splitAt.l0.eq_2 _ _ _) ?_
  rw [wd (2 * 1) (by omega) (by omega), wd' (2 * 1) (by omega) (by omega)]
  by_cases c2 : n ≤ 4
  · rw [if_pos c2]; exact ev_neg (by omega) (ev_now rfl)
  rw [if_neg c2]; refine ev_pos (by omega) ?_
  refine ev_step (fun k => impl_splitAt.l0.eq_2 _ _ _) ?_
  rw [wd (2 * (2 * 1)) (by omega) (by omega), wd' (2 * (2 * 1)) (by omega) (by omega)]
  by_cases c3 : n ≤ 8
  · rw [if_pos c3]; exact ev_neg (by omega) (ev_now rfl)
  rw [if_neg c3]; refine ev_pos (by omega) ?_
  refine ev_step (fun k => impl_splitAt.l0.eq_2 _ _ _) ?_
  rw [wd (2 * (2 * (2 * 1))) (by omega) (by omega)]
  exact ev_neg (by omega) (ev_now rfl)
end Go.Proofs.Ytchmaojmknfbpaa.S

/- Is a number in its bounds: the program's and the reference's answer. -/
set_option linter.unusedVariables false
namespace Go.Proofs.Ytchmaojmknfbpaa.S
open Go.RowKit Go.Proofs.YtchmaojmknfbpaaW.PrintWords Go.Proofs.YtchmaojmknfbpaaW.PrintLast Go.Proofs.YtchmaojmknfbpaaW.PrintMore Go.Proofs.Ytchmaojmknfbpaa.Base

theorem in_eq (a b c : Int) : impl_in.f a b c = some (decide (b ≤ a ∧ a ≤ c)) := by
  unfold impl_in.f
  by_cases h : b ≤ a <;> simp [h]
end Go.Proofs.Ytchmaojmknfbpaa.S

/- An element of rows of rows. -/
set_option linter.unusedVariables false
namespace Go.Proofs.Ytchmaojmknfbpaa.S
open Go.RowKit Go.Proofs.YtchmaojmknfbpaaW.PrintWords Go.Proofs.YtchmaojmknfbpaaW.PrintLast Go.Proofs.YtchmaojmknfbpaaW.PrintMore Go.Proofs.Ytchmaojmknfbpaa.Base

theorem rdLL (ls : List (List Int)) (i : Nat) (h : i < ls.length) : rd_L1 ls (i : Int) = ls[i] := by
  unfold rd_L1
  simp [List.getD_eq_getElem?_getD, List.getElem?_eq_getElem h]
end Go.Proofs.Ytchmaojmknfbpaa.S

/- Proofs: when one has its form, and what it climbs to: what the program's and the reference's come to. For all that fit. -/
set_option linter.unusedVariables false
namespace Go.Proofs.Ytchmaojmknfbpaa.S
open Go.RowKit Go.Proofs.YtchmaojmknfbpaaW.PrintWords Go.Proofs.YtchmaojmknfbpaaW.PrintLast Go.Proofs.YtchmaojmknfbpaaW.PrintMore Go.Proofs.Ytchmaojmknfbpaa.Base

/-- A place in a tree. -/
def Placed (n p : Int) : Prop := (1 ≤ n ∧ n ≤ 16) ∧ (0 ≤ p ∧ p < n)
instance (n p : Int) : Decidable (Placed n p) := by unfold Placed; infer_instance
theorem impl_pathLength_ev (n p : Int) (L : List Bool) (h : Placed n p → Ev (fun k => impl_sides.f k n p) L) : Ev (fun k => impl_PathLength.f k n p) (if Placed n p then (0, (L.length : Int)) else (3, 0)) := by
  unfold impl_PathLength.f
  refine ev_bind (ev_now (in_eq _ _ _)) ?_
  by_cases h1 : 1 ≤ n ∧ n ≤ 16
  · refine ev_pos (decide_eq_true h1) ?_
    rw [w64 (n := n - 1) (by omega) (by omega)]
    refine ev_bind (ev_now (in_eq _ _ _)) ?_
    by_cases h2 : 0 ≤ p ∧ p ≤ n - 1
    · have hp : Placed n p := ⟨h1, h2.1, by omega⟩
      rw [if_pos hp]
      exact ev_pos (decide_eq_true h2) (ev_bind (h hp) (ev_now rfl))
    · rw [if_neg (fun hp : Placed n p => h2 ⟨hp.2.1, by have := hp.2.2; omega⟩)]
      exact ev_neg (fun g => h2 (of_decide_eq_true g)) (ev_now rfl)
  · rw [if_neg (fun hp : Placed n p => h1 hp.1)]
    exact ev_neg (fun g => h1 (of_decide_eq_true g)) (ev_now rfl)
/-- All of 32 bytes. -/
def All32 (ls : List (List Int)) : Prop := ∀ l ∈ ls, l.length = 32
instance (ls : List (List Int)) : Decidable (All32 ls) := by unfold All32; infer_instance
theorem areDigests_eq (ls : List (List Int)) : impl_areDigests.f ls = some (decide (All32 ls)) := by
  unfold impl_areDigests.f
  congr 1
  rw [Bool.eq_iff_iff, List.all_eq_true, decide_eq_true_iff]
  unfold All32
  constructor
  · intro h l hl
    have := beq_iff_eq.1 (h l hl)
    omega
  · intro h l hl
    exact beq_iff_eq.2 (by have := h l hl; omega)
/-- A proof of the right form: its place, its length, its parts. -/
def Right (n p : Int) (L : List Bool) (ls : List (List Int)) : Prop := Placed n p ∧ ls.length = L.length ∧ All32 ls
instance (n p : Int) (L : List Bool) (ls : List (List Int)) : Decidable (Right n p L ls) := by unfold Right; infer_instance
theorem impl_isProof_ev (n p : Int) (L : List Bool) (h : Placed n p → Ev (fun k => impl_sides.f k n p) L) (ls : List (List Int)) : Ev (fun k => impl_isProof.f k p n ls) (decide (Right n p L ls)) := by
  unfold impl_isProof.f
  refine ev_bind (impl_pathLength_ev n p L h) ?_
  by_cases hp : Placed n p
  · rw [if_pos hp]
    refine ev_pos rfl ?_
    by_cases hl : ls.length = L.length
    · refine ev_pos (show (L.length : Int) = (ls.length : Int) by omega) (ev_bind (ev_now (areDigests_eq ls)) (ev_now ?_))
      congr 1
      rw [Bool.eq_iff_iff, decide_eq_true_iff, decide_eq_true_iff]
      exact ⟨fun g => ⟨hp, hl, g⟩, fun g => g.2.2⟩
    · exact ev_neg (show ¬ (L.length : Int) = (ls.length : Int) by omega) (ev_now (by rw [decide_eq_false (fun g : Right n p L ls => hl g.2.1)]))
  · rw [if_neg hp]
    exact ev_neg (show ¬ (3 : Int) = 0 by decide) (ev_now (by rw [decide_eq_false (fun g : Right n p L ls => hp g.1)]))
end Go.Proofs.Ytchmaojmknfbpaa.S

/- How a tree is split, and on which side the other parts are: the program's splitAt and sides and the reference's l3Split and l3Sides agree for 1 to 16 leaves. -/
set_option linter.unusedVariables false
namespace Go.Proofs.Ytchmaojmknfbpaa.S
open Go.RowKit Go.Proofs.YtchmaojmknfbpaaW.PrintWords Go.Proofs.YtchmaojmknfbpaaW.PrintLast Go.Proofs.YtchmaojmknfbpaaW.PrintMore Go.Proofs.Ytchmaojmknfbpaa.Base

theorem spec_split_ev {n : Int} (h : 2 ≤ n) (h1 : n ≤ 16) : Ev (fun k => spec_l3Split.f k n) (splitV n) := by
  unfold spec_l3Split.f splitV
  refine ev_step (fun k => spec_l3Split.l0.eq_2 _ _ _) ?_
  rw [wd 1 (by omega) (by omega)]
  by_cases c1 : n ≤ 2
  · rw [if_pos c1]; exact ev_neg (by omega) (ev_now rfl)
  rw [if_neg c1]; refine ev_pos (by omega) ?_
  refine ev_step (fun k => spec_l3Split.l0.eq_2 _ _ _) ?_
  rw [wd (2 * 1) (by omega) (by omega)]
  by_cases c2 : n ≤ 4
  · rw [if_pos c2]; exact ev_neg (by omega) (ev_now rfl)
  rw [if_neg c2]; refine ev_pos (by omega) ?_
  refine ev_step (fun k => spec_l3Split.l0.eq_2 _ _ _) ?_
  rw [wd (2 * (2 * 1)) (by omega) (by omega)]
  by_cases c3 : n ≤ 8
  · rw [if_pos c3]; exact ev_neg (by omega) (ev_now rfl)
  rw [if_neg c3]; refine ev_pos (by omega) ?_
  refine ev_step (fun k => spec_l3Split.l0.eq_2 _ _ _) ?_
  rw [wd (2 * (2 * (2 * 1))) (by omega) (by omega)]
  exact ev_neg (by omega) (ev_now rfl)
/-- The sides of the way from leaf p up in a tree of n leaves: true: the other part is on the left. -/
theorem sides_ev : ∀ (m : Nat) (n p : Int), n ≤ m → 1 ≤ n → n ≤ 16 → 0 ≤ p → p < n → ∃ L : List Bool, (L.length : Int) < n ∧ Ev (fun k => impl_sides.f k n p) L ∧ Ev (fun k => spec_l3Sides.f k n p) (L.map not) := by
  intro m
  induction m with
  | zero => intro n p h h1; omega
  | succ m ih =>
    intro n p h h1 h2 hp hq
    by_cases e : n = 1
    · refine ⟨[], by simp; omega, ?_, ?_⟩
      · exact ev_step (fun k => impl_sides.f.eq_2 _ _ _) (ev_pos e (ev_now rfl))
      · exact ev_step (fun k => spec_l3Sides.f.eq_2 _ _ _) (ev_pos (by omega) (ev_now rfl))
    · have hr := splitV_range (n := n) (by omega) h2
      have hs := spec_split_ev (n := n) (by omega) h2
      have hi := impl_split_ev (n := n) (by omega) h2
      generalize splitV n = v at hr hs hi
      by_cases c : p < v
      · obtain ⟨L, l1, l2, l3⟩ := ih v p (by omega) (by omega) (by omega) hp c
        refine ⟨L ++ [false], by simp; omega, ?_, ?_⟩
        · refine ev_step (fun k => impl_sides.f.eq_2 _ _ _) (ev_neg e (ev_bind hi (ev_pos c (ev_bind l2 (ev_pos ?_ (ev_now rfl))))))
          omega
        · refine ev_step (fun k => spec_l3Sides.f.eq_2 _ _ _) (ev_neg (by omega) (ev_bind hs (ev_pos c (ev_bind l3 (ev_pos ?_ (ev_now (by simp)))))))
          rw [List.length_map]; omega
      · obtain ⟨L, l1, l2, l3⟩ := ih (n - v) (p - v) (by omega) (by omega) (by omega) (by omega) (by omega)
        have e1 : wrap64 (n - v) = n - v := w64 (by omega) (by omega)
        have e2 : wrap64 (p - v) = p - v := w64 (by omega) (by omega)
        refine ⟨L ++ [true], by simp; omega, ?_, ?_⟩
        · refine ev_step (fun k => impl_sides.f.eq_2 _ _ _) (ev_neg e (ev_bind hi (ev_neg c ?_)))
          rw [e1, e2]
          exact ev_bind l2 (ev_pos (by omega) (ev_now rfl))
        · refine ev_step (fun k => spec_l3Sides.f.eq_2 _ _ _) (ev_neg (by omega) (ev_bind hs (ev_neg c ?_)))
          rw [e1, e2]
          exact ev_bind l3 (ev_pos (by rw [List.length_map]; omega) (ev_now (by simp)))
end Go.Proofs.Ytchmaojmknfbpaa.S

/- Is a number in its bounds: the program's and the reference's answer. -/
set_option linter.unusedVariables false
namespace Go.Proofs.Ytchmaojmknfbpaa.S
open Go.RowKit Go.Proofs.YtchmaojmknfbpaaW.PrintWords Go.Proofs.YtchmaojmknfbpaaW.PrintLast Go.Proofs.YtchmaojmknfbpaaW.PrintMore Go.Proofs.Ytchmaojmknfbpaa.Base

theorem l1In_eq (a b c : Int) : spec_l1In.f a b c = some (decide (b ≤ a ∧ a ≤ c)) := by
  unfold spec_l1In.f
  by_cases h : b ≤ a <;> simp [h]
end Go.Proofs.Ytchmaojmknfbpaa.S

/- What the laws' own helpers on byte slices come to: toByteS copies, eqByteS compares, markByteS and heldByteS count alike. For every slice that fits memory. -/
set_option linter.unusedVariables false
namespace Go.Proofs.Ytchmaojmknfbpaa.S
open Go.RowKit Go.Proofs.YtchmaojmknfbpaaW.PrintWords Go.Proofs.YtchmaojmknfbpaaW.PrintLast Go.Proofs.YtchmaojmknfbpaaW.PrintMore Go.Proofs.Ytchmaojmknfbpaa.Base

theorem toByteS_l0 (l : List Int) (hl : l.length ≤ 281474976710656) : ∀ (d : Nat) (x : List Int) (i : Nat), i + d = l.length → x.length = l.length → (∀ j, j < i → x[j]? = l[j]?) → Ev (fun k => laws_toByteS.l0 k l x (i : Int)) l := by
  intro d
  induction d with
  | zero =>
    intro x i hi hx hj
    refine ev_step (fun k => laws_toByteS.l0.eq_2 _ _ _ _) ?_
    refine ev_neg (by omega) ?_
    rw [fill_all hx (fun j h => hj j (by omega))]
    exact ev_now rfl
  | succ d ih =>
    intro x i hi hx hj
    refine ev_step (fun k => laws_toByteS.l0.eq_2 _ _ _ _) ?_
    refine ev_pos (by omega) ?_
    refine ev_pos (by omega) ?_
    refine ev_pos (by omega) ?_
    rw [w64s (by omega), Int.toNat_natCast]
    exact ih _ (i + 1) (by omega) (by rw [List.length_set]; exact hx) (fill_step (by omega) hx hj)
theorem toByteS_ev (l : List Int) (hl : l.length ≤ 281474976710656) : Ev (fun k => laws_toByteS.f k l) l := by
  unfold laws_toByteS.f
  refine ev_pos (by omega) ?_
  refine ev_pos (by omega) ?_
  exact toByteS_l0 l hl l.length _ 0 (by omega) (by simp) (fun j h => by omega)
theorem eqByteS_l0 (l : List Int) (hl : l.length ≤ 281474976710656) : ∀ (d i : Nat), i + d = l.length → Ev (fun k => laws_eqByteS.l0 k l l (i : Int)) true := by
  intro d
  induction d with
  | zero =>
    intro i hi
    refine ev_step (fun k => laws_eqByteS.l0.eq_2 _ _ _ _) ?_
    refine ev_neg (by omega) ?_
    exact ev_now rfl
  | succ d ih =>
    intro i hi
    refine ev_step (fun k => laws_eqByteS.l0.eq_2 _ _ _ _) ?_
    refine ev_pos (by omega) ?_
    refine ev_pos (by omega) ?_
    refine ev_pos (by omega) ?_
    refine ev_pos rfl ?_
    rw [w64s (by omega)]
    exact ih (i + 1) (by omega)
theorem eqByteS_ev (l : List Int) (hl : l.length ≤ 281474976710656) : Ev (fun k => laws_eqByteS.f k l l) true := by
  unfold laws_eqByteS.f
  refine ev_pos rfl ?_
  exact eqByteS_l0 l hl l.length 0 (by omega)
end Go.Proofs.Ytchmaojmknfbpaa.S

/- How many places are left behind a slice of bytes. -/
set_option linter.unusedVariables false
namespace Go.Proofs.Ytchmaojmknfbpaa.S
open Go.RowKit Go.Proofs.YtchmaojmknfbpaaW.PrintWords Go.Proofs.YtchmaojmknfbpaaW.PrintLast Go.Proofs.YtchmaojmknfbpaaW.PrintMore Go.Proofs.Ytchmaojmknfbpaa.Base

def szV (n : Nat) (a : Int) : Int := if a - n < 0 then -1 else a - n
theorem szByteS_eq (l : List Int) (a : Int) (hl : l.length ≤ 9223372036854775807) (h0 : 0 ≤ a) (h1 : a ≤ 1048576) : laws_szByteS.f l a = some (szV l.length a) := by
  unfold laws_szByteS.f szV
  rw [w64 (by omega) (by omega)]
  split <;> rfl
theorem szV_range {n : Nat} {a : Int} (h : ¬ szV n a < 0) : (n : Int) ≤ a ∧ szV n a = a - n := by
  unfold szV at h ⊢
  split at h
  · omega
  · rename_i g
    rw [if_neg g]
    exact ⟨by omega, rfl⟩
end Go.Proofs.Ytchmaojmknfbpaa.S

/- What the laws' helpers on slices of byte slices come to: a copy, a comparison, a size. For all that fit memory. -/
set_option linter.unusedVariables false
namespace Go.Proofs.Ytchmaojmknfbpaa.S
open Go.RowKit Go.Proofs.YtchmaojmknfbpaaW.PrintWords Go.Proofs.YtchmaojmknfbpaaW.PrintLast Go.Proofs.YtchmaojmknfbpaaW.PrintMore Go.Proofs.Ytchmaojmknfbpaa.Base

theorem toByteSS_l0 (ls : List (List Int)) (hl : ls.length ≤ 11728124029610) (hi : ∀ l ∈ ls, l.length ≤ 281474976710656) : ∀ (d : Nat) (x : List (List Int)) (i : Nat), i + d = ls.length → x.length = ls.length → (∀ j, j < i → x[j]? = ls[j]?) → Ev (fun k => laws_toByteSS.l0 k ls x (i : Int)) ls := by
  intro d
  induction d with
  | zero =>
    intro x i h hx hj
    refine ev_step (fun k => laws_toByteSS.l0.eq_2 _ _ _ _) (ev_neg (by omega) ?_)
    rw [fill_all hx (fun j h => hj j (by omega))]
    exact ev_now rfl
  | succ d ih =>
    intro x i h hx hj
    have hlt : i < ls.length := by omega
    refine ev_step (fun k => laws_toByteSS.l0.eq_2 _ _ _ _) (ev_pos (by omega) (ev_pos (by omega) ?_))
    rw [rdLL ls i hlt]
    refine ev_bind (toByteS_ev ls[i] (hi _ (List.getElem_mem _))) (ev_pos (by omega) ?_)
    rw [w64s (by omega), Int.toNat_natCast]
    refine ih _ (i + 1) (by omega) (by rw [List.length_set]; exact hx) (fun j hj' => ?_)
    rw [List.getElem?_set]
    by_cases e : i = j
    · subst e
      rw [if_pos rfl, if_pos (by omega), List.getElem?_eq_getElem hlt]
    · rw [if_neg e]
      exact hj j (by omega)
theorem toByteSS_ev (ls : List (List Int)) (hl : ls.length ≤ 11728124029610) (hi : ∀ l ∈ ls, l.length ≤ 281474976710656) : Ev (fun k => laws_toByteSS.f k ls) ls := by
  unfold laws_toByteSS.f
  exact ev_pos (by omega) (ev_pos (by omega) (toByteSS_l0 ls hl hi ls.length _ 0 (by omega) (by simp) (fun j h => by omega)))
theorem eqByteSS_l0 (ls : List (List Int)) (hl : ls.length ≤ 11728124029610) (hi : ∀ l ∈ ls, l.length ≤ 281474976710656) : ∀ (d i : Nat), i + d = ls.length → Ev (fun k => laws_eqByteSS.l0 k ls ls (i : Int)) true := by
  intro d
  induction d with
  | zero =>
    intro i h
    exact ev_step (fun k => laws_eqByteSS.l0.eq_2 _ _ _ _) (ev_neg (by omega) (ev_now rfl))
  | succ d ih =>
    intro i h
    have hlt : i < ls.length := by omega
    refine ev_step (fun k => laws_eqByteSS.l0.eq_2 _ _ _ _) (ev_pos (by omega) (ev_pos (by omega) (ev_pos (by omega) ?_)))
    rw [rdLL ls i hlt]
    refine ev_bind (eqByteS_ev ls[i] (hi _ (List.getElem_mem _))) (ev_pos rfl ?_)
    rw [w64s (by omega)]
    exact ih (i + 1) (by omega)
theorem eqByteSS_ev (ls : List (List Int)) (hl : ls.length ≤ 11728124029610) (hi : ∀ l ∈ ls, l.length ≤ 281474976710656) : Ev (fun k => laws_eqByteSS.f k ls ls) true := by
  unfold laws_eqByteSS.f
  exact ev_pos rfl (eqByteSS_l0 ls hl hi ls.length 0 (by omega))
theorem szByteSS_l0 (ls : List (List Int)) (hi : ∀ l ∈ ls, l.length ≤ 9223372036854775807) : ∀ (d i : Nat) (a : Int), i + d = ls.length → i ≤ 1048576 → ls.length ≤ 1048576 → 0 ≤ a → a ≤ 1048576 → ∃ r, Ev (fun k => laws_szByteSS.l0 k ls a (i : Int)) r ∧ r ≤ a ∧ (¬ r < 0 → ((ls.drop i).flatten.length : Int) + r = a) := by
  intro d
  induction d with
  | zero =>
    intro i a h _ _ ha hb
    refine ⟨a, ev_step (fun k => laws_szByteSS.l0.eq_2 _ _ _ _) (ev_neg (by omega) (ev_now rfl)), by omega, fun _ => ?_⟩
    rw [List.drop_of_length_le (by omega)]
    simp
  | succ d ih =>
    intro i a h h1 h2 ha hb
    have hlt : i < ls.length := by omega
    have e1 : (ls.drop i).flatten.length = ls[i].length + (ls.drop (i + 1)).flatten.length := by
      rw [List.drop_eq_getElem_cons hlt, List.flatten_cons, List.length_append]
    have hs := szByteS_eq ls[i] a (hi _ (List.getElem_mem _)) ha hb
    by_cases c : szV ls[i].length a < 0
    · refine ⟨-1, ev_step (fun k => laws_szByteSS.l0.eq_2 _ _ _ _) (ev_pos (by omega) (ev_pos (by omega) ?_)), by omega, fun g => absurd (by omega) g⟩
      rw [rdLL ls i hlt]
      exact ev_bind (ev_now hs) (ev_pos c (ev_now rfl))
    · obtain ⟨g1, g2⟩ := szV_range c
      obtain ⟨r, hr, hra, hrz⟩ := ih (i + 1) (szV ls[i].length a) (by omega) (by omega) h2 (by omega) (by omega)
      refine ⟨r, ev_step (fun k => laws_szByteSS.l0.eq_2 _ _ _ _) (ev_pos (by omega) (ev_pos (by omega) ?_)), by omega, fun g => ?_⟩
      · rw [rdLL ls i hlt]
        refine ev_bind (ev_now hs) (ev_neg c ?_)
        rw [w64s (by omega)]
        exact hr
      · have := hrz g
        rw [e1]
        omega
theorem szByteSS_ex (ls : List (List Int)) (hl : ls.length ≤ 9223372036854775807) (hi : ∀ l ∈ ls, l.length ≤ 9223372036854775807) (a : Int) (ha : 0 ≤ a) (hb : a ≤ 1048576) : ∃ r, Ev (fun k => laws_szByteSS.f k ls a) r ∧ r ≤ a ∧ (¬ r < 0 → (ls.length : Int) + (ls.flatten.length : Int) + r = a) := by
  unfold laws_szByteSS.f
  rw [w64 (by omega) (by omega)]
  by_cases c : a - (ls.length : Int) < 0
  · exact ⟨-1, ev_pos c (ev_now rfl), by omega, fun g => absurd (by omega) g⟩
  · obtain ⟨r, hr, hra, hrz⟩ := szByteSS_l0 ls hi ls.length 0 (a - (ls.length : Int)) (by omega) (by omega) (by omega) (by omega) (by omega)
    refine ⟨r, ev_neg c hr, by omega, fun g => ?_⟩
    have := hrz g
    rw [List.drop_zero] at this
    omega
theorem mem_flat {ls : List (List Int)} {l : List Int} (h : l ∈ ls) : l.length ≤ ls.flatten.length := by
  induction ls with
  | nil => cases h
  | cons x ls ih =>
    rw [List.flatten_cons, List.length_append]
    rcases List.mem_cons.1 h with rfl | h
    · omega
    · have := ih h
      omega
end Go.Proofs.Ytchmaojmknfbpaa.S

/- Proofs: when one has its form, and what it climbs to: what the program's and the reference's come to. For all that fit. -/
set_option linter.unusedVariables false
namespace Go.Proofs.Ytchmaojmknfbpaa.S
open Go.RowKit Go.Proofs.YtchmaojmknfbpaaW.PrintWords Go.Proofs.YtchmaojmknfbpaaW.PrintLast Go.Proofs.YtchmaojmknfbpaaW.PrintMore Go.Proofs.Ytchmaojmknfbpaa.Base

/-- The sides, by the reference's own words; of a place that is none, none. -/
theorem sides_ex (n p : Int) (h : Placed n p) : ∃ L : List Bool, (L.length : Int) < 16 ∧ Ev (fun k => impl_sides.f k n p) L ∧ Ev (fun k => spec_l3Sides.f k n p) (L.map not) := by
  obtain ⟨L, h1, h2, h3⟩ := sides_ev 16 n p h.1.2 h.1.1 h.1.2 h.2.1 h.2.2
  have := h.1.2
  exact ⟨L, by omega, h2, h3⟩
theorem spec_pathLength_ev (n p : Int) (L : List Bool) (h : Placed n p → Ev (fun k => spec_l3Sides.f k n p) (L.map not)) : Ev (fun k => spec_PathLength.f k n p) (if Placed n p then (0, (L.length : Int)) else (3, 0)) := by
  unfold spec_PathLength.f
  refine ev_bind (ev_now (l1In_eq _ _ _)) ?_
  by_cases h1 : 1 ≤ n ∧ n ≤ 16
  · refine ev_pos (decide_eq_true h1) ?_
    rw [w64 (n := n - 1) (by omega) (by omega)]
    refine ev_bind (ev_now (l1In_eq _ _ _)) ?_
    by_cases h2 : 0 ≤ p ∧ p ≤ n - 1
    · have hp : Placed n p := ⟨h1, h2.1, by omega⟩
      rw [if_pos hp]
      exact ev_pos (decide_eq_true h2) (ev_bind (h hp) (ev_now (by rw [List.length_map])))
    · rw [if_neg (fun hp : Placed n p => h2 ⟨hp.2.1, by have := hp.2.2; omega⟩)]
      exact ev_neg (fun g => h2 (of_decide_eq_true g)) (ev_now rfl)
  · rw [if_neg (fun hp : Placed n p => h1 hp.1)]
    exact ev_neg (fun g => h1 (of_decide_eq_true g)) (ev_now rfl)
theorem l3Right_l0 (ls : List (List Int)) (hl : ls.length ≤ 11728124029610) (a b : Int) : ∀ (d i : Nat), i + d = ls.length → Ev (fun k => spec_l3Right.l0 k (i : Int) a b ls) (decide (All32 (ls.drop i))) := by
  intro d
  induction d with
  | zero =>
    intro i h
    rw [List.drop_of_length_le (by omega), decide_eq_true (show All32 [] from fun l hl => by cases hl)]
    exact ev_step (fun k => spec_l3Right.l0.eq_2 _ _ _ _ _) (ev_neg (by omega) (ev_now rfl))
  | succ d ih =>
    intro i h
    have hlt : i < ls.length := by omega
    refine ev_step (fun k => spec_l3Right.l0.eq_2 _ _ _ _ _) (ev_pos (by omega) (ev_pos (by omega) ?_))
    rw [rdLL ls i hlt]
    by_cases g : ls[i].length = 32
    · refine ev_pos (by omega) ?_
      rw [w64s (by omega)]
      refine ev_eq (ih (i + 1) (by omega)) ?_
      rw [Bool.eq_iff_iff, decide_eq_true_iff, decide_eq_true_iff, List.drop_eq_getElem_cons hlt]
      unfold All32
      constructor
      · intro hh l hl
        rcases List.mem_cons.1 hl with rfl | hl
        · exact g
        · exact hh l hl
      · intro hh l hl
        exact hh l (List.mem_cons_of_mem _ hl)
    · refine ev_neg (by omega) (ev_now ?_)
      rw [decide_eq_false]
      rw [List.drop_eq_getElem_cons hlt]
      exact fun hh => g (hh _ List.mem_cons_self)
theorem spec_right_ev (n p : Int) (L : List Bool) (h : Placed n p → Ev (fun k => spec_l3Sides.f k n p) (L.map not)) (ls : List (List Int)) (hl : ls.length ≤ 11728124029610) : Ev (fun k => spec_l3Right.f k p n ls) (decide (Right n p L ls)) := by
  unfold spec_l3Right.f
  refine ev_bind (spec_pathLength_ev n p L h) ?_
  by_cases hp : Placed n p
  · rw [if_pos hp]
    refine ev_pos rfl (ev_step (fun k => spec_l3Right.j0.eq_2 _ _ _ _ _) ?_)
    by_cases hl2 : ls.length = L.length
    · refine ev_neg (show ¬ ((ls.length : Int) != (L.length : Int)) = true by simp [hl2]) ?_
      refine ev_eq (l3Right_l0 ls hl p n ls.length 0 (by omega)) ?_
      rw [List.drop_zero, Bool.eq_iff_iff, decide_eq_true_iff, decide_eq_true_iff]
      exact ⟨fun g => ⟨hp, hl2, g⟩, fun g => g.2.2⟩
    · exact ev_pos (show ((ls.length : Int) != (L.length : Int)) = true from bne_iff_ne.2 (by omega)) (ev_now (by rw [decide_eq_false (fun g : Right n p L ls => hl2 g.2.1)]))
  · rw [if_neg hp]
    exact ev_neg (show ¬ (3 : Int) = 0 by decide) (ev_step (fun k => spec_l3Right.j0.eq_2 _ _ _ _ _) (ev_pos rfl (ev_now (by rw [decide_eq_false (fun g : Right n p L ls => hp g.1)]))))
theorem sides_any (n p : Int) : ∃ L : List Bool, L.length ≤ 15 ∧ (Placed n p → Ev (fun k => impl_sides.f k n p) L) ∧ (Placed n p → Ev (fun k => spec_l3Sides.f k n p) (L.map not)) := by
  by_cases h : Placed n p
  · obtain ⟨L, h1, h2, h3⟩ := sides_ex n p h
    exact ⟨L, by omega, fun _ => h2, fun _ => h3⟩
  · exact ⟨[], by simp, fun g => absurd g h, fun g => absurd g h⟩
end Go.Proofs.Ytchmaojmknfbpaa.S

/- Words behind one another, each with its length ahead: what the program's packed and the reference's l1Pack come to. -/
set_option linter.unusedVariables false
namespace Go.Proofs.Ytchmaojmknfbpaa.S
open Go.RowKit Go.Proofs.YtchmaojmknfbpaaW.PrintWords Go.Proofs.YtchmaojmknfbpaaW.PrintLast Go.Proofs.YtchmaojmknfbpaaW.PrintMore Go.Proofs.Ytchmaojmknfbpaa.Base

/-- Words behind one another, each with its length ahead. -/
def packL : List (List Int) → List Int
  | [] => []
  | w :: ws => (((w.length : Int) % 256) :: w) ++ packL ws
theorem packL_cons_length (w : List Int) (ws : List (List Int)) : (packL (w :: ws)).length = 1 + w.length + (packL ws).length := by
  simp [packL]
  omega
theorem rdW (l : List (List Int)) (i : Nat) (h : i < l.length) : rd_L1 l (i : Int) = l[i] := by
  unfold rd_L1
  simp [List.getD_eq_getElem?_getD, List.getElem?_eq_getElem h]
/-- The words that are packed, and whether they are few and short. -/
def packedV (ws : List (List Int)) : List Int × Bool := if ws.length > 60 then ([], false) else if (∀ w ∈ ws, w.length ≤ 200) ∧ (packL ws).length ≤ 4000 then (packL ws, true) else ([], false)
theorem packed_l0 (ws : List (List Int)) (hw : ws.length ≤ 60) (hs : ∀ w ∈ ws, w.length ≤ 9223372036854771000) : ∀ (d i : Nat) (y : List Int), i + d = ws.length → y.length ≤ 4000 → Ev (fun k => impl_packed.l0 k y ws (ws.length : Int) (i : Int)) (if (∀ w ∈ ws.drop i, w.length ≤ 200) ∧ y.length + (packL (ws.drop i)).length ≤ 4000 then (y ++ packL (ws.drop i), true) else ([], false)) := by
  intro d
  induction d with
  | zero =>
    intro i y hi hl
    rw [List.drop_of_length_le (by omega)]
    rw [if_pos ⟨fun w hw => (by cases hw), (by simpa [packL] using hl)⟩]
    exact ev_step (fun k => impl_packed.l0.eq_2 _ _ _ _ _) (ev_neg (by omega) (ev_now (by simp [packL])))
  | succ d ih =>
    intro i y hi hl
    rw [List.drop_eq_getElem_cons (by omega)]
    have hsi := hs ws[i] (List.getElem_mem _)
    refine ev_step (fun k => impl_packed.l0.eq_2 _ _ _ _ _) (ev_pos (by omega) (ev_pos (by omega) (ev_pos (by omega) ?_)))
    rw [rdW ws i (by omega), packL_cons_length]
    by_cases c : ws[i].length > 200
    · rw [if_neg (fun h => by have := h.1 ws[i] List.mem_cons_self; omega)]
      exact ev_pos (by omega) (ev_now rfl)
    · refine ev_neg (by omega) ?_
      rw [w64 (n := (y.length : Int) + 1) (by omega) (by omega), w64 (n := (y.length : Int) + 1 + (ws[i].length : Int)) (by omega) (by omega)]
      by_cases e : (y.length : Int) + 1 + (ws[i].length : Int) > 4000
      · rw [if_neg (fun h => by omega)]
        exact ev_pos e (ev_now rfl)
      · refine ev_neg e (ev_pos (by omega) (ev_bind (ev_now rfl) (ev_pos (by simp; omega) ?_)))
        rw [w64s (by omega)]
        refine ev_eq (ih (i + 1) _ (by omega) (by simp; omega)) ?_
        have hq : ((∀ w ∈ ws[i] :: ws.drop (i + 1), w.length ≤ 200) ∧ y.length + (1 + ws[i].length + (packL (ws.drop (i + 1))).length) ≤ 4000) ↔ ((∀ w ∈ ws.drop (i + 1), w.length ≤ 200) ∧ (y ++ [(ws[i].length : Int) % 256] ++ ws[i]).length + (packL (ws.drop (i + 1))).length ≤ 4000) := by
          have hlen : (y ++ [(ws[i].length : Int) % 256] ++ ws[i]).length = y.length + 1 + ws[i].length := by simp; omega
          rw [hlen]
          constructor
          · rintro ⟨h1, h2⟩
            exact ⟨fun w hw => h1 w (List.mem_cons_of_mem _ hw), by omega⟩
          · rintro ⟨h1, h2⟩
            refine ⟨fun w hw => ?_, by omega⟩
            rcases List.mem_cons.1 hw with rfl | hw
            · omega
            · exact h1 w hw
        by_cases g : (∀ w ∈ ws[i] :: ws.drop (i + 1), w.length ≤ 200) ∧ y.length + (1 + ws[i].length + (packL (ws.drop (i + 1))).length) ≤ 4000
        · rw [if_pos g, if_pos (hq.1 g)]
          simp [packL]
        · rw [if_neg g, if_neg (fun h => g (hq.2 h))]
theorem packed_ev (ws : List (List Int)) (hs : ∀ w ∈ ws, w.length ≤ 9223372036854771000) : Ev (fun k => impl_packed.f k ws) (packedV ws) := by
  unfold impl_packed.f packedV
  by_cases c : ws.length > 60
  · rw [if_pos c]; exact ev_pos (by omega) (ev_now rfl)
  · rw [if_neg c]
    have h := packed_l0 ws (by omega) hs ws.length 0 [] (by omega) (by simp)
    simp only [List.drop_zero, List.length_nil, Nat.zero_add, List.nil_append] at h
    exact ev_neg (by omega) h
end Go.Proofs.Ytchmaojmknfbpaa.S

/- Words behind one another, each with its length ahead: what the program's packed and the reference's l1Pack come to. -/
set_option linter.unusedVariables false
namespace Go.Proofs.Ytchmaojmknfbpaa.S
open Go.RowKit Go.Proofs.YtchmaojmknfbpaaW.PrintWords Go.Proofs.YtchmaojmknfbpaaW.PrintLast Go.Proofs.YtchmaojmknfbpaaW.PrintMore Go.Proofs.Ytchmaojmknfbpaa.Base

theorem l1Pack_l0 (ws : List (List Int)) (hw : ws.length ≤ 1048576) : ∀ (d i : Nat) (y : List Int), i + d = ws.length → y.length + (packL (ws.drop i)).length < 140737488355328 → Ev (fun k => spec_l1Pack.l0 k ws y (i : Int)) (y ++ packL (ws.drop i)) := by
  intro d
  induction d with
  | zero =>
    intro i y hi hl
    rw [List.drop_of_length_le (by omega)]
    exact ev_step (fun k => spec_l1Pack.l0.eq_2 _ _ _ _) (ev_neg (by omega) (ev_now (by simp [packL])))
  | succ d ih =>
    intro i y hi hl
    rw [List.drop_eq_getElem_cons (by omega)] at hl ⊢
    rw [packL_cons_length] at hl
    refine ev_step (fun k => spec_l1Pack.l0.eq_2 _ _ _ _) (ev_pos (by omega) (ev_pos (by omega) (ev_pos (by omega) ?_)))
    rw [rdW ws i (by omega)]
    refine ev_bind (ev_now rfl) (ev_pos (by simp; omega) ?_)
    rw [w64s (by omega)]
    refine ev_eq (ih (i + 1) _ (by omega) (by simp; omega)) ?_
    simp [packL]
theorem l1Pack_ev (ws : List (List Int)) (hw : ws.length ≤ 1048576) (hl : (packL ws).length < 140737488355328) : Ev (fun k => spec_l1Pack.f k ws) (packL ws) := by
  have h := l1Pack_l0 ws hw ws.length 0 [] (by omega) (by simpa using hl)
  unfold spec_l1Pack.f
  simpa using h
end Go.Proofs.Ytchmaojmknfbpaa.S

/- Words that are packed: what the program's PackWords and the reference's come to. For few words that fit. -/
set_option linter.unusedVariables false
namespace Go.Proofs.Ytchmaojmknfbpaa.S
open Go.RowKit Go.Proofs.YtchmaojmknfbpaaW.PrintWords Go.Proofs.YtchmaojmknfbpaaW.PrintLast Go.Proofs.YtchmaojmknfbpaaW.PrintMore Go.Proofs.Ytchmaojmknfbpaa.Base

def packWordsV (ws : List (List Int)) : Int × List Int := if ws.length > 60 then (2, []) else if (∀ w ∈ ws, w.length ≤ 200) ∧ (packL ws).length ≤ 4000 then (0, packL ws) else (2, [])
theorem impl_PackWords_ev {ws : List (List Int)} (hs : ∀ w ∈ ws, w.length ≤ 9223372036854771000) : Ev (fun k => impl_PackWords.f k ws) (packWordsV ws) := by
  unfold impl_PackWords.f packWordsV
  have h := packed_ev ws hs
  unfold packedV at h
  by_cases c : ws.length > 60
  · rw [if_pos c] at h ⊢
    exact ev_bind h (ev_neg (by simp) (ev_now rfl))
  · rw [if_neg c] at h ⊢
    by_cases d : (∀ w ∈ ws, w.length ≤ 200) ∧ (packL ws).length ≤ 4000
    · rw [if_pos d] at h ⊢
      exact ev_bind h (ev_pos rfl (ev_now rfl))
    · rw [if_neg d] at h ⊢
      exact ev_bind h (ev_neg (by simp) (ev_now rfl))
theorem spec_PackWords_l0 (ws : List (List Int)) (hw : ws.length ≤ 60) (hl : (packL ws).length ≤ 1100000) : ∀ (d i : Nat) (s : Nat), i + d = ws.length → s + (packL (ws.drop i)).length ≤ 2097152 → Ev (fun k => spec_PackWords.l0 k ws (s : Int) (i : Int)) (if (∀ w ∈ ws.drop i, w.length ≤ 200) ∧ s + (packL (ws.drop i)).length ≤ 4000 then (0, packL ws) else (2, [])) := by
  intro d
  induction d with
  | zero =>
    intro i s hi hb
    rw [List.drop_of_length_le (by omega)] at hb ⊢
    refine ev_step (fun k => spec_PackWords.l0.eq_2 _ _ _ _) (ev_neg (by omega) ?_)
    by_cases c : s ≤ 4000
    · rw [if_pos ⟨fun w h => (by cases h), by simpa [packL] using c⟩]
      exact ev_neg (by omega) (ev_bind (l1Pack_ev ws (by omega) (by omega)) (ev_now rfl))
    · rw [if_neg (fun h => by have := h.2; simp [packL] at this; omega)]
      exact ev_pos (by omega) (ev_now rfl)
  | succ d ih =>
    intro i s hi hb
    have hlt : i < ws.length := by omega
    rw [List.drop_eq_getElem_cons hlt, packL_cons_length] at hb ⊢
    refine ev_step (fun k => spec_PackWords.l0.eq_2 _ _ _ _) (ev_pos (by omega) (ev_pos (by omega) ?_))
    rw [rdW ws i hlt]
    by_cases c : ws[i].length > 200
    · rw [if_neg (fun h => by have := h.1 ws[i] List.mem_cons_self; omega)]
      exact ev_pos (by omega) (ev_now rfl)
    · refine ev_neg (by omega) ?_
      rw [w64 (n := (s : Int) + 1) (by omega) (by omega), w64 (n := (s : Int) + 1 + (ws[i].length : Int)) (by omega) (by omega), w64s (by omega), show (s : Int) + 1 + (ws[i].length : Int) = ((s + 1 + ws[i].length : Nat) : Int) by omega]
      refine ev_eq (ih (i + 1) (s + 1 + ws[i].length) (by omega) (by omega)) ?_
      by_cases g : (∀ w ∈ ws.drop (i + 1), w.length ≤ 200) ∧ s + 1 + ws[i].length + (packL (ws.drop (i + 1))).length ≤ 4000
      · rw [if_pos g, if_pos]
        refine ⟨fun w hm => ?_, by omega⟩
        rcases List.mem_cons.1 hm with rfl | hm
        · omega
        · exact g.1 w hm
      · rw [if_neg g, if_neg]
        exact fun h => g ⟨fun w hm => h.1 w (List.mem_cons_of_mem _ hm), by omega⟩
theorem spec_PackWords_ev {ws : List (List Int)} (hl : (packL ws).length ≤ 1100000) : Ev (fun k => spec_PackWords.f k ws) (packWordsV ws) := by
  unfold spec_PackWords.f packWordsV
  by_cases c : ws.length > 60
  · rw [if_pos c]; exact ev_pos (by omega) (ev_now rfl)
  · rw [if_neg c]
    have h := spec_PackWords_l0 ws (by omega) hl ws.length 0 0 (by omega) (by simp; omega)
    simp only [List.drop_zero, Nat.zero_add] at h
    exact ev_neg (by omega) h
end Go.Proofs.Ytchmaojmknfbpaa.S

/- Rows of rows of the call's own, no two of which share memory; where in memory they lie; what the laws' marks make of them. No condition beyond those in the statements. -/
set_option linter.unusedVariables false
set_option linter.unusedSimpArgs false
namespace Go.Proofs.Ytchmaojmknfbpaa.S
open Go Go.RowKit Go.Proofs.YtchmaojmknfbpaaW.PrintWords Go.Proofs.YtchmaojmknfbpaaW.PrintLast Go.Proofs.YtchmaojmknfbpaaW.PrintMore Go.Proofs.Ytchmaojmknfbpaa.Base

def In (lo hi : Nat) : Nat → Prop := fun k => lo ≤ k ∧ k < hi
theorem In_apart {lo hi a b : Nat} (h : hi ≤ a ∨ b ≤ lo) : ∀ k, In lo hi k → ¬ In a b k := fun k h1 h2 => by
  unfold In at h1 h2
  omega
theorem add_block (ad : Addr) (i : Nat) : (ad.add i).block = ad.block := by
  unfold Addr.add
  split <;> rfl
/-- Rows of bytes, each its own memory, all between lo and hi. -/
def AR (base : Nat) (w : World) (lo hi : Nat) (A : Option Addr) (ls : List (List Int)) : Prop :=
  ls.length ≤ 9223372036854775807 ∧ (ls = [] ∨ ∃ (ad : Addr) (vs : Nat → Value), A = some ad ∧ (lo ≤ ad.block ∧ ad.block < hi) ∧
    (∀ i, (h : i < ls.length) → w.cell? (ad.add i) = some (vs i) ∧ Kd.R (Kd.int .u8) 5 w base (fun k => some k = (vs i).ownBlock) (vs i) ls[i]) ∧
    (∀ i k, i < ls.length → (vs i).ownBlock = some k → (lo ≤ k ∧ k < hi) ∧ k ≠ ad.block) ∧
    (∀ i j k, i < ls.length → j < ls.length → i ≠ j → (vs i).ownBlock = some k → (vs j).ownBlock ≠ some k))
section
variable {base lo hi a b : Nat} {w w1 : World} {A : Option Addr} {ls : List (List Int)}
theorem AR.foot (h : AR base w lo hi A ls) : Kd.F (Kd.slice 5 (Kd.int .u8)) w (In lo hi) A ls.length ls := fun W' hW => by
  refine ⟨rfl, h.1, fun hp => ?_⟩
  rcases h.2 with rfl | ⟨ad, vs, hA, hg, hr, hin, hap⟩
  · simp at hp
  refine ⟨ad, hA, fun j p hj => ?_⟩
  obtain ⟨hjl, hpj⟩ := List.getElem?_eq_some_iff.1 hj
  obtain ⟨hc, hR⟩ := hr j hjl
  have hR2 : Kd.R (Kd.int .u8) 5 W' base (fun k => some k = (vs j).ownBlock) (vs j) ls[j] := Kd.R_step hR (fun k ho hlt => hW k (hin j k hjl ho.symm).1 hlt)
  rw [hpj] at hR2
  obtain ⟨A', c', hv⟩ := Kd.R_slice hR2
  rw [hv] at hR2
  obtain ⟨_, h2, h3⟩ := Kd.R_reads' hR2
  refine ⟨[vs j], rfl, ⟨A', c', by rw [hv], h2, h3⟩, fun i u hu => ?_⟩
  cases i with
  | zero =>
    have e1 : vs j = u := by simpa using hu
    rw [← e1]
    show W'.cell? (ad.add (j * 1 + 0)) = _
    rw [Nat.mul_one, Nat.add_zero]
    have hb := hW ad.block hg (by have := World.block_lt_of_cell? w _ hc; rwa [add_block] at this)
    rw [← hc]
    unfold World.cell?
    rw [add_block, hb]
  | succ i => simp at hu
end
/-- What the printed walks call apart is so. -/
theorem AR_of_S {e base base0 : Nat} {ok : Nat → Prop} {w : World} {v : Value} {ls : List (List Int)} (h : Kd.S (Kd.slice 5 (Kd.int .u8)) e w base0 ok v ls) (hb : base ≤ base0) :
    ∃ A c, v = .slice A ls.length c ∧ ls.length ≤ c ∧ AR base w base0 w.heap.size A ls := by
  have hR := Kd.S_R h
  obtain ⟨A, c, rfl⟩ := Kd.R_slice hR
  obtain ⟨_, hc, hC⟩ := Kd.R_reads' hR
  refine ⟨A, c, rfl, hc, hC.2.1, ?_⟩
  by_cases hz : ls = []
  · exact .inl hz
  have hp : 0 < ls.length := by cases ls with
    | nil => exact absurd rfl hz
    | cons x l => simp
  obtain ⟨f, hf⟩ := h
  obtain ⟨g, cap, hv, hg0, hg1, cells, hcells⟩ := Kd.R_form hR hp
  injection hv with hv1 hv2 hv3
  subst hv1
  have each : ∀ i, (hi : i < ls.length) → ∃ u, w.cell? ⟨g, i, none⟩ = some u ∧ Kd.R (Kd.int .u8) 5 w base0 (fun k => (ok k ∧ k ≠ g) ∧ f k = i) u ls[i] := fun i hi => by
    obtain ⟨cs, hcl, hM, hcc, _⟩ := Kd.R_elem (d := Kd.tag f (Kd.slice 5 (Kd.int .u8))) hf ([], 0) (i : Int) (by omega) (by omega)
    have e1 : ls.zipIdx.getD (i : Int).toNat ([], 0) = (ls[i], i) := by
      rw [Int.toNat_natCast, List.getD_eq_getElem?_getD, Kd.zip_at (List.getElem?_eq_getElem hi)]
      rfl
    rw [e1] at hM
    obtain ⟨u, rfl, hu⟩ := hM
    refine ⟨u, ?_, hu⟩
    have h1 := hcc 0 u rfl
    rw [Int.toNat_natCast] at h1
    have h2 : w.cell? ⟨g, i * 1 + 0, none⟩ = some u := h1
    rwa [Nat.mul_one, Nat.add_zero] at h2
  refine .inr ⟨⟨g, 0, none⟩, fun i => (w.cell? ⟨g, i, none⟩).getD (.bool false), rfl, ⟨hg0, hg1⟩, fun i hi => ?_, fun i k hi hk => ?_, fun i j k hi hj hij hk hk2 => ?_⟩
  · obtain ⟨u, hu, hr⟩ := each i hi
    rw [add_plain]
    simp only [hu, Option.getD_some]
    exact ⟨trivial, Kd.R_lower (Kd.R_tight rfl hr) hb⟩
  · obtain ⟨u, hu, hr⟩ := each i hi
    simp only [hu, Option.getD_some] at hk
    have := (Kd.R_bound hr).1 k hk
    exact ⟨⟨this.2.1, this.2.2.1⟩, this.1.1.2⟩
  · obtain ⟨u, hu, hr⟩ := each i hi
    obtain ⟨u2, hu2, hr2⟩ := each j hj
    simp only [hu, Option.getD_some] at hk
    simp only [hu2, Option.getD_some] at hk2
    have h1 := (hr.1 k hk).2
    have h2 := (hr2.1 k hk2).2
    omega
end Go.Proofs.Ytchmaojmknfbpaa.S
namespace Go.Proofs.Ytchmaojmknfbpaa.S
open Go Go.RowKit Go.Proofs.YtchmaojmknfbpaaW.PrintWords Go.Proofs.YtchmaojmknfbpaaW.PrintLast Go.Proofs.YtchmaojmknfbpaaW.PrintMore Go.Proofs.Ytchmaojmknfbpaa.Base
/-- Where a walk stands still: its goal under a word. -/
def Hold (p : Prop) : Prop := p
theorem hold_here {p : Prop} (h : Hold p) : p := h
theorem hold_go {p : Prop} (h : p) : Hold p := h
/-- A row of bytes of the call's own, between lo and hi. -/
theorem B_of_R {e base base0 : Nat} {ok : Nat → Prop} {w : World} {v : Value} {xs : List Int} (h : Kd.R (Kd.int .u8) e w base0 ok v xs) (hb : base ≤ base0) :
    ∃ A c, v = .slice A xs.length c ∧ Kd.R (Kd.int .u8) e w base (In base0 w.heap.size) (.slice A xs.length c) xs := by
  obtain ⟨A, c, rfl⟩ := Kd.R_slice h
  exact ⟨A, c, rfl, Kd.R_lower (Kd.R_mono (Kd.R_bound h) (fun k hk => ⟨hk.2.1, hk.2.2.1⟩)) hb⟩
theorem B_kept {e base lo hi a b : Nat} {w w1 : World} {v : Value} {xs : List Int} (h : Kd.R (Kd.int .u8) e w base (In lo hi) v xs) (hk : Kept w w1 (In a b)) (hd : hi ≤ a ∨ b ≤ lo) : Kd.R (Kd.int .u8) e w1 base (In lo hi) v xs := Kd.R_kept h hk (In_apart hd)
theorem B_tight {e base lo hi : Nat} {ok : Nat → Prop} {w w0 : World} {v : Value} {xs ys : List Int} (h0 : Kd.R (Kd.int .u8) e w0 base (In lo hi) v ys) (h : Kd.R (Kd.int .u8) e w base ok v xs) : Kd.R (Kd.int .u8) e w base (In lo hi) v xs := Kd.R_mono (Kd.R_tight rfl h) (fun k hk => h0.1 k hk.symm)
theorem blk_keptIn {g a b : Nat} {w w1 : World} {o : Obj} (h : w.heap[g]? = some o) (hk : Kept w w1 (In a b)) (hd : g < a ∨ b ≤ g) : w1.heap[g]? = some o := blk_kept h hk (fun h2 => by unfold In at h2; omega)
theorem row_store {P : Program} {ops : Array Oper} {rest : List Oper} {o : Oper} {a : Act} {w w0 : World} {B : Nat} {Q : Exit → Act → World → Prop} (hgd : o.guard = none) (ty : TypeId) (x y : Operand) (ho : o.op = .store ty x y)
    (g : Nat) (cells : Array Value) (hx : a.eval x = .pointer (some ⟨g, 0, none⟩)) (hy : a.eval y = .agg cells)
    (t : TypeId) (old : Array Value) (hg : w.heap[g]? = some (.cells old t (0, 0))) (hi : (P.info? ty).map (·.size) = some cells.size)
    (hold : old.size = cells.size) (h1 : cells.all (·.oneCell') = true) (hd : o.dst = none) (hb : Below B w0 w) (hB : B ≤ g)
    (h : ∀ w1 : World, w1.heap[g]? = some (.cells cells t (0, 0)) → Kept w w1 (In g (g + 1)) → Below B w0 w1 → wpList P ops Q rest a w1) : wpList P ops Q (o :: rest) a w := by
  refine wpList_store_row hgd ty x y ho g cells hx hy t old hg hi hold h1 ?_
  rw [hd]
  exact h _ (setRow_heap w g old cells t (0, 0) hg) ⟨by simp [World.setRow], fun k hk hn => setRow_other w g k cells (fun e => hn (by subst e; exact ⟨Nat.le_refl _, Nat.lt_succ_self _⟩))⟩ (below_setRow hb hB cells)
end Go.Proofs.Ytchmaojmknfbpaa.S

/- slices.Grow on nothing, slices.Concat on three slices of rows: what they come to. No condition beyond those in the statements. -/
set_option linter.unusedVariables false
set_option linter.unusedSimpArgs false
namespace Go.Proofs.Ytchmaojmknfbpaa.S
open Go Go.RowKit Go.Proofs.YtchmaojmknfbpaaW.PrintWords Go.Proofs.YtchmaojmknfbpaaW.PrintLast Go.Proofs.YtchmaojmknfbpaaW.PrintMore Go.Proofs.Ytchmaojmknfbpaa.Base
attribute [local go_sem] max2_int min2_int max_two min_two max_three min_three max_four min_four

set_option maxHeartbeats 8000000 in
set_option maxRecDepth 100000 in
theorem grow_calls (n : Int) (h0 : 0 ≤ n) (h1 : n ≤ 1000000000) (w : World) :
    Calls Try.prog 80 #[.slice none 0 0, .int .i64 n] w fun e w' => ∃ v : Value, e = .returned v ∧ Kd.N (Kd.slice 5 (Kd.int .u8)) 22 w' w.heap.size (fun _ => True) v [] ∧ Below w.heap.size w w' := by
  have HB := Aside0.mk (Below.refl w.heap.size w)
  have HN0 := Aside0.mk (Kd.N_nil (Kd.slice 5 (Kd.int .u8)) 22 w w.heap.size (fun _ => True))
  have H0 := Aside0.mk h0
  have H1 := Aside0.mk h1
  have c1_ : decide (n < 0) = false := decide_eq_false (by omega)
  have e1_ : wrap64 n = n := by unfold wrap64; omega
  by_cases hz : 0 < n
  · have c2_ : decide (0 < n) = true := decide_eq_true hz
    have c3_ : decide (0 < wrap64 n) = true := by rw [e1_]; exact c2_
    clear h0 h1
    go_enter Try.func80, Try.ntmps80
    go_wp2_with (first | ((with_reducible refine gate_builtin (b := .append) (xs := #[.tmp 20, .tmp 21]) rfl ?_); refine hold_here ?_))
    refine hold_go ?_
    at_builtin
    refine Kd.N_append_zeros (Kd.slice 5 (Kd.int .u8)) (w0 := w) w.heap.size rfl (.tmp 20) (.tmp 21) 23 3 22 (.slice none 0 0) 24 rfl Try.underlying23 Try.underlying3 info22 rfl (by decide) (by omega) (.slice none 0 0) [] [] (kx := .i64) (wrap64 n) (fun _ => True) rfl rfl (fun W' _ => ⟨none, 0, rfl, Nat.le_refl _, Kd.C_nil _ _⟩) (fun _ _ => trivial) HN0.out (by rw [e1_]; exact H0.out) HB.out (below_size HB.out) ?aL ?_
    case aL => (have := H1.out; have := H0.out; rw [e1_]; simp only [List.length_nil]; omega)
    intro v1 w1 hN_ hb hg_ ha_
    have HN := Aside0.mk hN_
    have HB1 := Aside0.mk hb
    clear hN_ hb hg_ ha_ HB HN0
    obtain ⟨A8, c8, e8⟩ := Kd.N_slice HN.out
    subst e8
    have q1_ : (0 ≤ (c8 : Int)) = True := eq_true (by omega)
    have q2_ : decide ((0 : Int) ≤ (c8 : Int)) = true := decide_eq_true (by omega)
    go_wp2
    go_ret
    exact ⟨_, rfl, Kd.N_take HN.out (Nat.zero_le _), HB1.out⟩
  · have c2_ : decide (0 < n) = false := decide_eq_false hz
    have c3_ : decide (0 < wrap64 n) = false := by rw [e1_]; exact c2_
    clear h0 h1
    go_enter Try.func80, Try.ntmps80
    go_wp2
    go_ret
    exact ⟨_, rfl, HN0.out, HB.out⟩
set_option maxHeartbeats 16000000 in
set_option maxRecDepth 100000 in
theorem concat_calls (g : Nat) (A0 A1 A2 : Option Addr) (c0 c1 c2 : Nat) (l0 l1 l2 : List (List Int)) (w : World) (hbx : w.heap[g]? = some (.cells #[.slice A0 l0.length c0, .slice A1 l1.length c1, .slice A2 l2.length c2] 23 (0, 0))) (h0 : Kd.C (Kd.slice 5 (Kd.int .u8)) w A0 l0.length l0) (h1 : Kd.C (Kd.slice 5 (Kd.int .u8)) w A1 l1.length l1) (h2 : Kd.C (Kd.slice 5 (Kd.int .u8)) w A2 l2.length l2) (hn : l0.length + l1.length + l2.length ≤ 1000000000) :
    Calls Try.prog 46 #[.slice (some ⟨g, 0, none⟩) 3 3] w fun e w' => ∃ v : Value, e = .returned v ∧ Kd.N (Kd.slice 5 (Kd.int .u8)) 22 w' w.heap.size (fun _ => True) v (l0 ++ l1 ++ l2) ∧ Below w.heap.size w w' := by
  have HB := Aside0.mk (Below.refl w.heap.size w)
  have BK := Aside0.mk hbx
  have HG := Aside0.mk (blk_lt hbx)
  have HL := Aside0.mk hn
  have F0 := Aside0.mk (Kd.C_F (Kd.heap_slice _ (Kd.heap_int _)) h0)
  have F1 := Aside0.mk (Kd.C_F (Kd.heap_slice _ (Kd.heap_int _)) h1)
  have F2 := Aside0.mk (Kd.C_F (Kd.heap_slice _ (Kd.heap_int _)) h2)
  clear hbx h0 h1 h2
  go_enter Try.func46, Try.ntmps46
  go_wp2
  go_loopg [3, 11] 3 (fun kq v3 v11 w' => ∃ i : Nat, Aside0 (i + kq = 3) ∧ Aside0 (Below w.heap.size w w') ∧ ((i = 0 ∧ v11 = .int .i64 0 ∧ v3 = .int .i64 0) ∨ (i = 1 ∧ v11 = .int .i64 1 ∧ v3 = .int .i64 (l0.length : Int)) ∨ (i = 2 ∧ v11 = .int .i64 2 ∧ v3 = .int .i64 ((l0.length : Int) + (l1.length : Int))) ∨ (i = 3 ∧ v11 = .int .i64 3 ∧ v3 = .int .i64 ((l0.length : Int) + (l1.length : Int) + (l2.length : Int)))))
  case atStart => exact ⟨0, ⟨rfl⟩, HB, .inl ⟨rfl, rfl, rfl⟩⟩
  case round =>
    clear HB
    obtain ⟨i, HJ, HB, hrel⟩ := hrel
    have BKr := Aside0.mk ((HB.out.block g HG.out).trans BK.out)
    have hz0 : wr.cell? ⟨g, 0, none⟩ = some (.slice A0 l0.length c0) := (blk_cell BKr.out 0).trans rfl
    have hz1 : wr.cell? ⟨g, 1, none⟩ = some (.slice A1 l1.length c1) := (blk_cell BKr.out 1).trans rfl
    have hz2 : wr.cell? ⟨g, 2, none⟩ = some (.slice A2 l2.length c2) := (blk_cell BKr.out 2).trans rfl
    have hl := HL.out
    rcases hrel with ⟨rfl, rfl, rfl⟩ | ⟨rfl, rfl, rfl⟩ | ⟨rfl, rfl, rfl⟩ | ⟨rfl, rfl, rfl⟩
    · cases gk with
      | zero => exact absurd HJ.out (by decide)
      | succ k1 =>
        have e1_ : wrap64 (0 + (l0.length : Int)) = (l0.length : Int) := by unfold wrap64; omega
        have c1_ : decide ((l0.length : Int) < 0) = false := decide_eq_false (by omega)
        clear hl
        go_wp2
        go_roundg k1
        case measure => have := HJ.out; omega
        case rel => exact ⟨1, ⟨by have := HJ.out; omega⟩, HB, .inr (.inl ⟨rfl, rfl, rfl⟩)⟩
    · cases gk with
      | zero => exact absurd HJ.out (by decide)
      | succ k1 =>
        have e1_ : wrap64 ((l0.length : Int) + (l1.length : Int)) = ((l0.length : Int) + (l1.length : Int)) := by unfold wrap64; omega
        have c1_ : decide (((l0.length : Int) + (l1.length : Int)) < 0) = false := decide_eq_false (by omega)
        clear hl
        go_wp2
        go_roundg k1
        case measure => have := HJ.out; omega
        case rel => exact ⟨2, ⟨by have := HJ.out; omega⟩, HB, .inr (.inr (.inl ⟨rfl, rfl, rfl⟩))⟩
    · cases gk with
      | zero => exact absurd HJ.out (by decide)
      | succ k1 =>
        have e1_ : wrap64 (((l0.length : Int) + (l1.length : Int)) + (l2.length : Int)) = ((l0.length : Int) + (l1.length : Int) + (l2.length : Int)) := by unfold wrap64; omega
        have c1_ : decide (((l0.length : Int) + (l1.length : Int) + (l2.length : Int)) < 0) = false := decide_eq_false (by omega)
        clear hl
        go_wp2
        go_roundg k1
        case measure => have := HJ.out; omega
        case rel => exact ⟨3, ⟨by have := HJ.out; omega⟩, HB, .inr (.inr (.inr ⟨rfl, rfl, rfl⟩))⟩
    · cases gk with
      | succ k1 => exact absurd HJ.out (by omega)
      | zero =>
        clear hl
        go_wp2_with (first | ((with_reducible refine gate_callee (f := 80) rfl ?_); refine hold_here ?_))
        refine hold_go ?_
        have hl := HL.out
        refine goesL_ (some 24) rfl rfl Try.func80 (by kernel_rfl) rfl #[.slice none 0 0, .int .i64 ((l0.length : Int) + (l1.length : Int) + (l2.length : Int))] rfl (by (try simp only [List.map_toArray, List.map_cons, List.map_nil]); first | done | rfl) ?_
        refine (grow_calls _ (by omega) (by omega) _).mono ?_
        rintro e w2 ⟨v, rfl, hN_, hb⟩
        refine ⟨_, rfl, ?_⟩
        have HN := Aside0.mk (Kd.N_lower hN_ (below_size HB.out))
        have HB2 := Aside0.mk (below_step HB.out hb)
        clear hN_ hb HB BKr hz0 hz1 hz2 hl HJ
        go_wp2
        go_loopg [6, 27] 3 (fun kq v6 v27 w' => ∃ (i : Nat) (xs : List (List Int)), Aside0 (i + kq = 3) ∧ Aside0 (Below w.heap.size w w') ∧ Aside0 (Kd.N (Kd.slice 5 (Kd.int .u8)) 22 w' w.heap.size (fun _ => True) v6 xs) ∧ ((i = 0 ∧ v27 = .int .i64 0 ∧ [] = xs) ∨ (i = 1 ∧ v27 = .int .i64 1 ∧ l0 = xs) ∨ (i = 2 ∧ v27 = .int .i64 2 ∧ l0 ++ l1 = xs) ∨ (i = 3 ∧ v27 = .int .i64 3 ∧ l0 ++ l1 ++ l2 = xs)))
        case atStart => exact ⟨0, [], ⟨rfl⟩, HB2, HN, .inl ⟨rfl, rfl, rfl⟩⟩
        case round =>
          clear HB2 HN
          obtain ⟨i, xs, HJ, HB, HN, hrel⟩ := hrel
          have BKr := Aside0.mk ((HB.out.block g HG.out).trans BK.out)
          have hz0 : wr.cell? ⟨g, 0, none⟩ = some (.slice A0 l0.length c0) := (blk_cell BKr.out 0).trans rfl
          have hz1 : wr.cell? ⟨g, 1, none⟩ = some (.slice A1 l1.length c1) := (blk_cell BKr.out 1).trans rfl
          have hz2 : wr.cell? ⟨g, 2, none⟩ = some (.slice A2 l2.length c2) := (blk_cell BKr.out 2).trans rfl
          rcases hrel with ⟨rfl, rfl, rfl⟩ | ⟨rfl, rfl, rfl⟩ | ⟨rfl, rfl, rfl⟩ | ⟨rfl, rfl, rfl⟩
          · cases gk with
            | zero => exact absurd HJ.out (by decide)
            | succ k1 =>
              go_wp2_with (first | ((with_reducible refine gate_builtin (b := .append) (xs := #[.tmp 31, .tmp 32]) rfl ?_); refine hold_here ?_))
              refine hold_go ?_
              at_builtin
              refine Kd.N_append_rows (Kd.slice 5 (Kd.int .u8)) (w0 := w) w.heap.size rfl (.tmp 31) (.tmp 32) 23 22 (.slice none 0 0) 24 rfl Try.underlying23 info22 rfl (by decide) (by omega) _ [] l0 A0 l0.length c0 (fun _ => True) (fun k => k < w.heap.size) rfl rfl HN.out (Kd.F_below F0.out HB.out) (fun k hk => ⟨trivial, fun e => by have := Kd.N_base HN.out k e.symm; omega⟩) (fun _ _ => trivial) HB.out (below_size HB.out) (by have := HL.out; (try simp only [List.length_append, List.length_nil]); omega) ?_
              intro v1 w1 hN_ hb hg_ ha_
              have HN1 := Aside0.mk hN_
              have HB1 := Aside0.mk hb
              clear hN_ hb hg_ ha_ HB HN BKr hz0 hz1 hz2
              go_wp2
              go_roundg k1
              case measure => have := HJ.out; omega
              case rel => exact ⟨1, _, ⟨by have := HJ.out; omega⟩, HB1, HN1, .inr (.inl ⟨rfl, rfl, (List.nil_append _).symm⟩)⟩
          · cases gk with
            | zero => exact absurd HJ.out (by decide)
            | succ k1 =>
              go_wp2_with (first | ((with_reducible refine gate_builtin (b := .append) (xs := #[.tmp 31, .tmp 32]) rfl ?_); refine hold_here ?_))
              refine hold_go ?_
              at_builtin
              refine Kd.N_append_rows (Kd.slice 5 (Kd.int .u8)) (w0 := w) w.heap.size rfl (.tmp 31) (.tmp 32) 23 22 (.slice none 0 0) 24 rfl Try.underlying23 info22 rfl (by decide) (by omega) _ l0 l1 A1 l1.length c1 (fun _ => True) (fun k => k < w.heap.size) rfl rfl HN.out (Kd.F_below F1.out HB.out) (fun k hk => ⟨trivial, fun e => by have := Kd.N_base HN.out k e.symm; omega⟩) (fun _ _ => trivial) HB.out (below_size HB.out) (by have := HL.out; (try simp only [List.length_append, List.length_nil]); omega) ?_
              intro v1 w1 hN_ hb hg_ ha_
              have HN1 := Aside0.mk hN_
              have HB1 := Aside0.mk hb
              clear hN_ hb hg_ ha_ HB HN BKr hz0 hz1 hz2
              go_wp2
              go_roundg k1
              case measure => have := HJ.out; omega
              case rel => exact ⟨2, _, ⟨by have := HJ.out; omega⟩, HB1, HN1, .inr (.inr (.inl ⟨rfl, rfl, rfl⟩))⟩
          · cases gk with
            | zero => exact absurd HJ.out (by decide)
            | succ k1 =>
              go_wp2_with (first | ((with_reducible refine gate_builtin (b := .append) (xs := #[.tmp 31, .tmp 32]) rfl ?_); refine hold_here ?_))
              refine hold_go ?_
              at_builtin
              refine Kd.N_append_rows (Kd.slice 5 (Kd.int .u8)) (w0 := w) w.heap.size rfl (.tmp 31) (.tmp 32) 23 22 (.slice none 0 0) 24 rfl Try.underlying23 info22 rfl (by decide) (by omega) _ (l0 ++ l1) l2 A2 l2.length c2 (fun _ => True) (fun k => k < w.heap.size) rfl rfl HN.out (Kd.F_below F2.out HB.out) (fun k hk => ⟨trivial, fun e => by have := Kd.N_base HN.out k e.symm; omega⟩) (fun _ _ => trivial) HB.out (below_size HB.out) (by have := HL.out; (try simp only [List.length_append, List.length_nil]); omega) ?_
              intro v1 w1 hN_ hb hg_ ha_
              have HN1 := Aside0.mk hN_
              have HB1 := Aside0.mk hb
              clear hN_ hb hg_ ha_ HB HN BKr hz0 hz1 hz2
              go_wp2
              go_roundg k1
              case measure => have := HJ.out; omega
              case rel => exact ⟨3, _, ⟨by have := HJ.out; omega⟩, HB1, HN1, .inr (.inr (.inr (⟨rfl, rfl, rfl⟩)))⟩
          · cases gk with
            | succ k1 => exact absurd HJ.out (by omega)
            | zero =>
              clear BKr hz0 hz1 hz2
              go_wp2
              go_ret
              have HNx := HN.out
              rw [List.append_assoc] at HNx
              exact ⟨_, rfl, HNx, HB.out⟩

end Go.Proofs.Ytchmaojmknfbpaa.S

/- impl.PackSign: what it comes to. No condition beyond those in the statements. -/
set_option linter.unusedVariables false
set_option linter.unusedSimpArgs false
namespace Go.Proofs.Ytchmaojmknfbpaa.S
open Go Go.RowKit Go.Proofs.YtchmaojmknfbpaaW.PrintWords Go.Proofs.YtchmaojmknfbpaaW.PrintLast Go.Proofs.YtchmaojmknfbpaaW.PrintMore Go.Proofs.Ytchmaojmknfbpaa.Base
attribute [local go_sem] max2_int min2_int max_two min_two max_three min_three max_four min_four

set_option maxHeartbeats 16000000 in
set_option maxRecDepth 100000 in
theorem packSign_no (k : Nat) (a0 : Int) (A1 : Option Addr) (c1 : Nat) (l1 : List (List Int)) (a2 a3 : Int) (A4 : Option Addr) (c4 : Nat) (l4 : List (List Int)) (w : World) (hr1 : Kd.C (Kd.slice 5 (Kd.int .u8)) w A1 l1.length l1) (hc1 : l1.length ≤ c1) (hr4 : Kd.C (Kd.slice 5 (Kd.int .u8)) w A4 l4.length l4) (hc4 : l4.length ≤ c4) (hp : impl_Signature_isPlaced.f a0 l1 a2 a3 l4 = some false) :
    Calls Try.prog 18 #[.agg #[.int .i64 a0, .slice A1 l1.length c1, .int .i64 a2, .int .i64 a3, .slice A4 l4.length c4]] w fun e w' => ∃ v1_ : Value, e = .returned (.agg #[.int .i64 1, v1_]) ∧ Kd.R (Kd.int .u8) 5 w' w.heap.size (fun _ => True) v1_ [] ∧ Below w.heap.size w w' := by
  have hu1_ := Try.underlying27
  have hu2_ := Try.underlying42
  have hu3_ := Try.underlying25
  have HR1 := Aside0.mk hr1
  have HC1 := Aside0.mk hc1
  have HR4 := Aside0.mk hr4
  have HC4 := Aside0.mk hc4
  have HB := Aside0.mk (Below.refl w.heap.size w)
  have A43 := Aside0.mk hp
  clear hr1 hc1 hr4 hc4 hp
  go_enter Try.func18, Try.ntmps18
  go_wp2_with (first | ((with_reducible refine gate_dst (N := 1) rfl ?_); refine hold_here ?_))
  refine hold_go ?_
  refine box_event (N := 1) (cs := #[.int .i64 a0, .slice A1 l1.length c1, .int .i64 a2, .int .i64 a3, .slice A4 l4.length c4]) (t := 27) ?hgb rfl ?hrb ?_
  case hgb => rfl
  case hrb => first | (go_simp; done) | (go_simp; rfl)
  intro g1 hg w1 hbox hb
  replace HB := Aside0.mk (below_step HB.out hb)
  have BK1 := Aside0.mk hbox
  clear hbox hb hg
  go_wp2_with (first | ((with_reducible refine gate_dst (N := 2) rfl ?_); refine hold_here ?_))
  refine hold_go ?_
  refine box_event (N := 2) (cs := #[.int .i64 0, .slice none 0 0]) (t := 42) ?hgb rfl ?hrb ?_
  case hgb => rfl
  case hrb => first | (go_simp; done) | (go_simp; rfl)
  intro g2 hg w2 hbox hb
  have BK2 := Aside0.mk hbox
  have GE2 := Aside0.mk (show w.heap.size ≤ g2 by rw [hg]; exact below_size HB.out)
  have NE := Aside0.mk (show g1 ≠ g2 by rw [hg]; exact Nat.ne_of_lt (blk_lt BK1.out))
  clear hbox hg
  replace BK1 := Aside0.mk (blk_below BK1.out hb)
  replace HB := Aside0.mk (below_step HB.out hb)
  clear hb
  have hz0 : w2.cell? ⟨g1, 0, none⟩ = some (.int .i64 a0) := (blk_cell BK1.out 0).trans rfl
  have hf0 := blk_frozen BK1.out 0
  have hz1 : w2.cell? ⟨g1, 1, none⟩ = some (.slice A1 l1.length c1) := (blk_cell BK1.out 1).trans rfl
  have hf1 := blk_frozen BK1.out 1
  have hz2 : w2.cell? ⟨g1, 2, none⟩ = some (.int .i64 a2) := (blk_cell BK1.out 2).trans rfl
  have hf2 := blk_frozen BK1.out 2
  have hz3 : w2.cell? ⟨g1, 3, none⟩ = some (.int .i64 a3) := (blk_cell BK1.out 3).trans rfl
  have hf3 := blk_frozen BK1.out 3
  have hz4 : w2.cell? ⟨g1, 4, none⟩ = some (.slice A4 l4.length c4) := (blk_cell BK1.out 4).trans rfl
  have hf4 := blk_frozen BK1.out 4
  go_wp2_with (first | ((with_reducible refine gate_callee (f := 43) rfl ?_); refine hold_here ?_))
  refine hold_go ?_
  refine goesL_ (some 4) rfl rfl Try.func43 (by kernel_rfl) rfl #[.agg #[.int .i64 a0, .slice A1 l1.length c1, .int .i64 a2, .int .i64 a3, .slice A4 l4.length c4]] rfl (by (try simp only [List.map_toArray, List.map_cons, List.map_nil]); first | done | rfl) ?_
  refine (impl_Signature_isPlaced.calls a0 A1 c1 l1 a2 a3 A4 c4 l4 _ _ (Kd.C_below HR1.out HB.out) HC1.out (Kd.C_below HR4.out HB.out) HC4.out A43.out).mono ?_
  rintro e w3 ⟨rfl, hb⟩
  refine ⟨_, rfl, ?_⟩
  clear hz0 hf0 hz1 hf1 hz2 hf2 hz3 hf3 hz4 hf4
  replace BK1 := Aside0.mk (blk_below BK1.out hb)
  replace BK2 := Aside0.mk (blk_below BK2.out hb)
  replace HB := Aside0.mk (below_step HB.out hb)
  clear hb
  have hz0 : w3.cell? ⟨g1, 0, none⟩ = some (.int .i64 a0) := (blk_cell BK1.out 0).trans rfl
  have hf0 := blk_frozen BK1.out 0
  have hz1 : w3.cell? ⟨g1, 1, none⟩ = some (.slice A1 l1.length c1) := (blk_cell BK1.out 1).trans rfl
  have hf1 := blk_frozen BK1.out 1
  have hz2 : w3.cell? ⟨g1, 2, none⟩ = some (.int .i64 a2) := (blk_cell BK1.out 2).trans rfl
  have hf2 := blk_frozen BK1.out 2
  have hz3 : w3.cell? ⟨g1, 3, none⟩ = some (.int .i64 a3) := (blk_cell BK1.out 3).trans rfl
  have hf3 := blk_frozen BK1.out 3
  have hz4 : w3.cell? ⟨g1, 4, none⟩ = some (.slice A4 l4.length c4) := (blk_cell BK1.out 4).trans rfl
  have hf4 := blk_frozen BK1.out 4
  clear hz0 hf0 hz1 hf1 hz2 hf2 hz3 hf3 hz4 hf4
  have hy0 : w3.cell? ⟨g2, 0, none⟩ = some (.int .i64 0) := (blk_cell BK2.out 0).trans rfl
  have hy1 : w3.cell? ⟨g2, 1, none⟩ = some (.slice none 0 0) := (blk_cell BK2.out 1).trans rfl
  have he0 := blk_frozen BK2.out 0
  have he1 := blk_frozen BK2.out 1
  have hn_ := NE.out
  have hm_ := fun e => NE.out (Eq.symm e)
  go_wp2
  refine bodyPost_ret (results_cell_row rfl _ _ g2 42 #[.int .i64 1, .slice none 0 0] (0, 0) _ rfl (by refine blk_put (cs := #[.int .i64 1, .slice none 0 0]) ?_ 1 _ rfl; refine blk_put (cs := #[.int .i64 0, .slice none 0 0]) ?_ 0 _ rfl; exact BK2.out) Try.underlying42 rfl (by kernel_rfl)) rfl ?_
  exact ⟨_, rfl, Kd.R_nil _ _ _ _ _, below_set (below_set HB.out GE2.out) GE2.out⟩
set_option maxHeartbeats 16000000 in
set_option maxRecDepth 100000 in
theorem packSign_bad (k : Nat) (a0 : Int) (A1 : Option Addr) (c1 : Nat) (l1 : List (List Int)) (a2 a3 : Int) (A4 : Option Addr) (c4 : Nat) (l4 : List (List Int)) (w : World) (hr1 : Kd.C (Kd.slice 5 (Kd.int .u8)) w A1 l1.length l1) (hc1 : l1.length ≤ c1) (hr4 : Kd.C (Kd.slice 5 (Kd.int .u8)) w A4 l4.length l4) (hc4 : l4.length ≤ c4) (hp : impl_Signature_isPlaced.f a0 l1 a2 a3 l4 = some true) (hq : impl_isProof.f k a2 a3 l4 = some false) :
    Calls Try.prog 18 #[.agg #[.int .i64 a0, .slice A1 l1.length c1, .int .i64 a2, .int .i64 a3, .slice A4 l4.length c4]] w fun e w' => ∃ v1_ : Value, e = .returned (.agg #[.int .i64 1, v1_]) ∧ Kd.R (Kd.int .u8) 5 w' w.heap.size (fun _ => True) v1_ [] ∧ Below w.heap.size w w' := by
  have hu1_ := Try.underlying27
  have hu2_ := Try.underlying42
  have hu3_ := Try.underlying25
  have HR1 := Aside0.mk hr1
  have HC1 := Aside0.mk hc1
  have HR4 := Aside0.mk hr4
  have HC4 := Aside0.mk hc4
  have HB := Aside0.mk (Below.refl w.heap.size w)
  have A43 := Aside0.mk hp
  have A44 := Aside0.mk hq
  clear hr1 hc1 hr4 hc4 hp hq
  go_enter Try.func18, Try.ntmps18
  go_wp2_with (first | ((with_reducible refine gate_dst (N := 1) rfl ?_); refine hold_here ?_))
  refine hold_go ?_
  refine box_event (N := 1) (cs := #[.int .i64 a0, .slice A1 l1.length c1, .int .i64 a2, .int .i64 a3, .slice A4 l4.length c4]) (t := 27) ?hgb rfl ?hrb ?_
  case hgb => rfl
  case hrb => first | (go_simp; done) | (go_simp; rfl)
  intro g1 hg w1 hbox hb
  replace HB := Aside0.mk (below_step HB.out hb)
  have BK1 := Aside0.mk hbox
  clear hbox hb hg
  go_wp2_with (first | ((with_reducible refine gate_dst (N := 2) rfl ?_); refine hold_here ?_))
  refine hold_go ?_
  refine box_event (N := 2) (cs := #[.int .i64 0, .slice none 0 0]) (t := 42) ?hgb rfl ?hrb ?_
  case hgb => rfl
  case hrb => first | (go_simp; done) | (go_simp; rfl)
  intro g2 hg w2 hbox hb
  have BK2 := Aside0.mk hbox
  have GE2 := Aside0.mk (show w.heap.size ≤ g2 by rw [hg]; exact below_size HB.out)
  have NE := Aside0.mk (show g1 ≠ g2 by rw [hg]; exact Nat.ne_of_lt (blk_lt BK1.out))
  clear hbox hg
  replace BK1 := Aside0.mk (blk_below BK1.out hb)
  replace HB := Aside0.mk (below_step HB.out hb)
  clear hb
  have hz0 : w2.cell? ⟨g1, 0, none⟩ = some (.int .i64 a0) := (blk_cell BK1.out 0).trans rfl
  have hf0 := blk_frozen BK1.out 0
  have hz1 : w2.cell? ⟨g1, 1, none⟩ = some (.slice A1 l1.length c1) := (blk_cell BK1.out 1).trans rfl
  have hf1 := blk_frozen BK1.out 1
  have hz2 : w2.cell? ⟨g1, 2, none⟩ = some (.int .i64 a2) := (blk_cell BK1.out 2).trans rfl
  have hf2 := blk_frozen BK1.out 2
  have hz3 : w2.cell? ⟨g1, 3, none⟩ = some (.int .i64 a3) := (blk_cell BK1.out 3).trans rfl
  have hf3 := blk_frozen BK1.out 3
  have hz4 : w2.cell? ⟨g1, 4, none⟩ = some (.slice A4 l4.length c4) := (blk_cell BK1.out 4).trans rfl
  have hf4 := blk_frozen BK1.out 4
  go_wp2_with (first | ((with_reducible refine gate_callee (f := 43) rfl ?_); refine hold_here ?_))
  refine hold_go ?_
  refine goesL_ (some 4) rfl rfl Try.func43 (by kernel_rfl) rfl #[.agg #[.int .i64 a0, .slice A1 l1.length c1, .int .i64 a2, .int .i64 a3, .slice A4 l4.length c4]] rfl (by (try simp only [List.map_toArray, List.map_cons, List.map_nil]); first | done | rfl) ?_
  refine (impl_Signature_isPlaced.calls a0 A1 c1 l1 a2 a3 A4 c4 l4 _ _ (Kd.C_below HR1.out HB.out) HC1.out (Kd.C_below HR4.out HB.out) HC4.out A43.out).mono ?_
  rintro e w3 ⟨rfl, hb⟩
  refine ⟨_, rfl, ?_⟩
  clear hz0 hf0 hz1 hf1 hz2 hf2 hz3 hf3 hz4 hf4
  replace BK1 := Aside0.mk (blk_below BK1.out hb)
  replace BK2 := Aside0.mk (blk_below BK2.out hb)
  replace HB := Aside0.mk (below_step HB.out hb)
  clear hb
  have hz0 : w3.cell? ⟨g1, 0, none⟩ = some (.int .i64 a0) := (blk_cell BK1.out 0).trans rfl
  have hf0 := blk_frozen BK1.out 0
  have hz1 : w3.cell? ⟨g1, 1, none⟩ = some (.slice A1 l1.length c1) := (blk_cell BK1.out 1).trans rfl
  have hf1 := blk_frozen BK1.out 1
  have hz2 : w3.cell? ⟨g1, 2, none⟩ = some (.int .i64 a2) := (blk_cell BK1.out 2).trans rfl
  have hf2 := blk_frozen BK1.out 2
  have hz3 : w3.cell? ⟨g1, 3, none⟩ = some (.int .i64 a3) := (blk_cell BK1.out 3).trans rfl
  have hf3 := blk_frozen BK1.out 3
  have hz4 : w3.cell? ⟨g1, 4, none⟩ = some (.slice A4 l4.length c4) := (blk_cell BK1.out 4).trans rfl
  have hf4 := blk_frozen BK1.out 4
  go_wp2_with (first | ((with_reducible refine gate_callee (f := 44) rfl ?_); refine hold_here ?_))
  refine hold_go ?_
  (try (refine gate_guard (by rfl) ?_; dsimp only))
  refine goesL_ (some 9) rfl rfl Try.func44 (by kernel_rfl) rfl #[.agg #[.int .i64 a2, .int .i64 a3, .slice A4 l4.length c4]] rfl (by (try simp only [List.map_toArray, List.map_cons, List.map_nil]); first | done | rfl) ?_
  refine (impl_isProof.calls k a2 a3 A4 c4 l4 _ _ (Kd.C_below HR4.out HB.out) HC4.out A44.out).mono ?_
  rintro e w4 ⟨rfl, hb⟩
  refine ⟨_, rfl, ?_⟩
  clear hz0 hf0 hz1 hf1 hz2 hf2 hz3 hf3 hz4 hf4
  replace BK1 := Aside0.mk (blk_below BK1.out hb)
  replace BK2 := Aside0.mk (blk_below BK2.out hb)
  replace HB := Aside0.mk (below_step HB.out hb)
  clear hb
  have hy0 : w4.cell? ⟨g2, 0, none⟩ = some (.int .i64 0) := (blk_cell BK2.out 0).trans rfl
  have hy1 : w4.cell? ⟨g2, 1, none⟩ = some (.slice none 0 0) := (blk_cell BK2.out 1).trans rfl
  have he0 := blk_frozen BK2.out 0
  have he1 := blk_frozen BK2.out 1
  have hn_ := NE.out
  have hm_ := fun e => NE.out (Eq.symm e)
  go_wp2
  refine bodyPost_ret (results_cell_row rfl _ _ g2 42 #[.int .i64 1, .slice none 0 0] (0, 0) _ rfl (by refine blk_put (cs := #[.int .i64 1, .slice none 0 0]) ?_ 1 _ rfl; refine blk_put (cs := #[.int .i64 0, .slice none 0 0]) ?_ 0 _ rfl; exact BK2.out) Try.underlying42 rfl (by kernel_rfl)) rfl ?_
  exact ⟨_, rfl, Kd.R_nil _ _ _ _ _, below_set (below_set HB.out GE2.out) GE2.out⟩
set_option maxHeartbeats 16000000 in
set_option maxRecDepth 100000 in
theorem packSign_ok (k : Nat) (a0 : Int) (A1 : Option Addr) (c1 : Nat) (l1 : List (List Int)) (a2 a3 : Int) (A4 : Option Addr) (c4 : Nat) (l4 : List (List Int)) (r1 : Int) (r2 : List Int) (w : World) (hr1 : Kd.C (Kd.slice 5 (Kd.int .u8)) w A1 l1.length l1) (hc1 : l1.length ≤ c1) (hr4 : Kd.C (Kd.slice 5 (Kd.int .u8)) w A4 l4.length l4) (hc4 : l4.length ≤ c4) (hp : impl_Signature_isPlaced.f a0 l1 a2 a3 l4 = some true) (hq : impl_isProof.f k a2 a3 l4 = some true) (hl : l1.length + l4.length ≤ 900000000) (hk : impl_PackWords.f k ([[a0 % 256]] ++ l1 ++ l4) = some (r1, r2)) :
    Calls Try.prog 18 #[.agg #[.int .i64 a0, .slice A1 l1.length c1, .int .i64 a2, .int .i64 a3, .slice A4 l4.length c4]] w fun e w' => ∃ v1_ : Value, e = .returned (.agg #[.int .i64 r1, v1_]) ∧ Kd.R (Kd.int .u8) 5 w' w.heap.size (fun _ => True) v1_ r2 ∧ Below w.heap.size w w' := by
  have hu1_ := Try.underlying27
  have hu2_ := Try.underlying42
  have hu3_ := Try.underlying25
  have HR1 := Aside0.mk hr1
  have HC1 := Aside0.mk hc1
  have HR4 := Aside0.mk hr4
  have HC4 := Aside0.mk hc4
  have HB := Aside0.mk (Below.refl w.heap.size w)
  have A43 := Aside0.mk hp
  have A44 := Aside0.mk hq
  have A45 := Aside0.mk hk
  have HL := Aside0.mk hl
  clear hr1 hc1 hr4 hc4 hp hq hk hl
  go_enter Try.func18, Try.ntmps18
  go_wp2_with (first | ((with_reducible refine gate_dst (N := 1) rfl ?_); refine hold_here ?_))
  refine hold_go ?_
  refine box_event (N := 1) (cs := #[.int .i64 a0, .slice A1 l1.length c1, .int .i64 a2, .int .i64 a3, .slice A4 l4.length c4]) (t := 27) ?hgb rfl ?hrb ?_
  case hgb => rfl
  case hrb => first | (go_simp; done) | (go_simp; rfl)
  intro g1 hg w1 hbox hb
  replace HB := Aside0.mk (below_step HB.out hb)
  have BK1 := Aside0.mk hbox
  clear hbox hb hg
  go_wp2_with (first | ((with_reducible refine gate_dst (N := 2) rfl ?_); refine hold_here ?_))
  refine hold_go ?_
  refine box_event (N := 2) (cs := #[.int .i64 0, .slice none 0 0]) (t := 42) ?hgb rfl ?hrb ?_
  case hgb => rfl
  case hrb => first | (go_simp; done) | (go_simp; rfl)
  intro g2 hg w2 hbox hb
  have BK2 := Aside0.mk hbox
  have GE2 := Aside0.mk (show w.heap.size ≤ g2 by rw [hg]; exact below_size HB.out)
  have NE := Aside0.mk (show g1 ≠ g2 by rw [hg]; exact Nat.ne_of_lt (blk_lt BK1.out))
  clear hbox hg
  replace BK1 := Aside0.mk (blk_below BK1.out hb)
  replace HB := Aside0.mk (below_step HB.out hb)
  clear hb
  have hz0 : w2.cell? ⟨g1, 0, none⟩ = some (.int .i64 a0) := (blk_cell BK1.out 0).trans rfl
  have hf0 := blk_frozen BK1.out 0
  have hz1 : w2.cell? ⟨g1, 1, none⟩ = some (.slice A1 l1.length c1) := (blk_cell BK1.out 1).trans rfl
  have hf1 := blk_frozen BK1.out 1
  have hz2 : w2.cell? ⟨g1, 2, none⟩ = some (.int .i64 a2) := (blk_cell BK1.out 2).trans rfl
  have hf2 := blk_frozen BK1.out 2
  have hz3 : w2.cell? ⟨g1, 3, none⟩ = some (.int .i64 a3) := (blk_cell BK1.out 3).trans rfl
  have hf3 := blk_frozen BK1.out 3
  have hz4 : w2.cell? ⟨g1, 4, none⟩ = some (.slice A4 l4.length c4) := (blk_cell BK1.out 4).trans rfl
  have hf4 := blk_frozen BK1.out 4
  go_wp2_with (first | ((with_reducible refine gate_callee (f := 43) rfl ?_); refine hold_here ?_))
  refine hold_go ?_
  refine goesL_ (some 4) rfl rfl Try.func43 (by kernel_rfl) rfl #[.agg #[.int .i64 a0, .slice A1 l1.length c1, .int .i64 a2, .int .i64 a3, .slice A4 l4.length c4]] rfl (by (try simp only [List.map_toArray, List.map_cons, List.map_nil]); first | done | rfl) ?_
  refine (impl_Signature_isPlaced.calls a0 A1 c1 l1 a2 a3 A4 c4 l4 _ _ (Kd.C_below HR1.out HB.out) HC1.out (Kd.C_below HR4.out HB.out) HC4.out A43.out).mono ?_
  rintro e w3 ⟨rfl, hb⟩
  refine ⟨_, rfl, ?_⟩
  clear hz0 hf0 hz1 hf1 hz2 hf2 hz3 hf3 hz4 hf4
  replace BK1 := Aside0.mk (blk_below BK1.out hb)
  replace BK2 := Aside0.mk (blk_below BK2.out hb)
  replace HB := Aside0.mk (below_step HB.out hb)
  clear hb
  have hz0 : w3.cell? ⟨g1, 0, none⟩ = some (.int .i64 a0) := (blk_cell BK1.out 0).trans rfl
  have hf0 := blk_frozen BK1.out 0
  have hz1 : w3.cell? ⟨g1, 1, none⟩ = some (.slice A1 l1.length c1) := (blk_cell BK1.out 1).trans rfl
  have hf1 := blk_frozen BK1.out 1
  have hz2 : w3.cell? ⟨g1, 2, none⟩ = some (.int .i64 a2) := (blk_cell BK1.out 2).trans rfl
  have hf2 := blk_frozen BK1.out 2
  have hz3 : w3.cell? ⟨g1, 3, none⟩ = some (.int .i64 a3) := (blk_cell BK1.out 3).trans rfl
  have hf3 := blk_frozen BK1.out 3
  have hz4 : w3.cell? ⟨g1, 4, none⟩ = some (.slice A4 l4.length c4) := (blk_cell BK1.out 4).trans rfl
  have hf4 := blk_frozen BK1.out 4
  go_wp2_with (first | ((with_reducible refine gate_callee (f := 44) rfl ?_); refine hold_here ?_))
  refine hold_go ?_
  (try (refine gate_guard (by rfl) ?_; dsimp only))
  refine goesL_ (some 9) rfl rfl Try.func44 (by kernel_rfl) rfl #[.agg #[.int .i64 a2, .int .i64 a3, .slice A4 l4.length c4]] rfl (by (try simp only [List.map_toArray, List.map_cons, List.map_nil]); first | done | rfl) ?_
  refine (impl_isProof.calls k a2 a3 A4 c4 l4 _ _ (Kd.C_below HR4.out HB.out) HC4.out A44.out).mono ?_
  rintro e w4 ⟨rfl, hb⟩
  refine ⟨_, rfl, ?_⟩
  clear hz0 hf0 hz1 hf1 hz2 hf2 hz3 hf3 hz4 hf4
  replace BK1 := Aside0.mk (blk_below BK1.out hb)
  replace BK2 := Aside0.mk (blk_below BK2.out hb)
  replace HB := Aside0.mk (below_step HB.out hb)
  clear hb
  have hz0 : w4.cell? ⟨g1, 0, none⟩ = some (.int .i64 a0) := (blk_cell BK1.out 0).trans rfl
  have hf0 := blk_frozen BK1.out 0
  have hz1 : w4.cell? ⟨g1, 1, none⟩ = some (.slice A1 l1.length c1) := (blk_cell BK1.out 1).trans rfl
  have hf1 := blk_frozen BK1.out 1
  have hz2 : w4.cell? ⟨g1, 2, none⟩ = some (.int .i64 a2) := (blk_cell BK1.out 2).trans rfl
  have hf2 := blk_frozen BK1.out 2
  have hz3 : w4.cell? ⟨g1, 3, none⟩ = some (.int .i64 a3) := (blk_cell BK1.out 3).trans rfl
  have hf3 := blk_frozen BK1.out 3
  have hz4 : w4.cell? ⟨g1, 4, none⟩ = some (.slice A4 l4.length c4) := (blk_cell BK1.out 4).trans rfl
  have hf4 := blk_frozen BK1.out 4
  go_wp2_with (first | ((with_reducible refine gate_dst (N := 16) rfl ?_); refine hold_here ?_))
  refine hold_go ?_
  refine Kd.R_lit (Kd.int .u8) _ 5 ?hgb (N := 16) rfl (xs := ([a0 % 256] : List Int)) (inner := [.int .u8 (a0 % 256)]) (ok := fun _ => True) (okp := fun _ => True) ?hrb ?hpb (fun _ hk => hk) trivial (Below.refl _ _) (Nat.le_refl _) (by simp) ?_
  case hgb => rfl
  case hrb => first | (go_simp; done) | (go_simp; rfl)
  case hpb => exact (Reps.one (show Kd.M (Kd.int .u8) _ _ _ (a0 % 256) [.int .u8 (a0 % 256)] from rfl) (Reps.none _ _))
  intro v5 w5 ho hb hg_ hnew_
  have HO := Aside0.mk ho
  clear ho hg_ hnew_
  clear hz0 hf0 hz1 hf1 hz2 hf2 hz3 hf3 hz4 hf4
  replace BK1 := Aside0.mk (blk_below BK1.out hb)
  replace BK2 := Aside0.mk (blk_below BK2.out hb)
  replace HB := Aside0.mk (below_step HB.out hb)
  clear hb
  have hz0 : w5.cell? ⟨g1, 0, none⟩ = some (.int .i64 a0) := (blk_cell BK1.out 0).trans rfl
  have hf0 := blk_frozen BK1.out 0
  have hz1 : w5.cell? ⟨g1, 1, none⟩ = some (.slice A1 l1.length c1) := (blk_cell BK1.out 1).trans rfl
  have hf1 := blk_frozen BK1.out 1
  have hz2 : w5.cell? ⟨g1, 2, none⟩ = some (.int .i64 a2) := (blk_cell BK1.out 2).trans rfl
  have hf2 := blk_frozen BK1.out 2
  have hz3 : w5.cell? ⟨g1, 3, none⟩ = some (.int .i64 a3) := (blk_cell BK1.out 3).trans rfl
  have hf3 := blk_frozen BK1.out 3
  have hz4 : w5.cell? ⟨g1, 4, none⟩ = some (.slice A4 l4.length c4) := (blk_cell BK1.out 4).trans rfl
  have hf4 := blk_frozen BK1.out 4
  obtain ⟨A5, c5, e5⟩ := Kd.R_slice HO.out
  subst e5
  go_wp2_with (first | ((with_reducible refine gate_dst (N := 17) rfl ?_); refine hold_here ?_))
  refine hold_go ?_
  refine Kd.N_lit (Kd.slice 5 (Kd.int .u8)) _ 22 ?hgb (N' := 17) rfl (xs := ([[a0 % 256]] : List (List Int))) (inner := [.slice A5 [a0 % 256].length c5]) (ok := fun _ => True) (okp := fun _ => True) ?hrb ?hpb (fun _ hk => hk) trivial (Below.refl _ _) (Nat.le_refl _) (by simp) ?_
  case hgb => rfl
  case hrb => first | (go_simp; done) | (go_simp; rfl)
  case hpb => exact (Reps.one (show Kd.FK (Kd.slice 5 (Kd.int .u8)) _ _ [a0 % 256] [.slice A5 [a0 % 256].length c5] from Kd.FK_slice_mk (Kd.R_reads' HO.out).2.1 (Kd.R_F HO.out)) (Reps.none _ _))
  intro v6 w6 ho hb hg_ hnew_
  have HQ := Aside0.mk ho
  clear ho hg_ hnew_ HO
  clear hz0 hf0 hz1 hf1 hz2 hf2 hz3 hf3 hz4 hf4
  replace BK1 := Aside0.mk (blk_below BK1.out hb)
  replace BK2 := Aside0.mk (blk_below BK2.out hb)
  replace HB := Aside0.mk (below_step HB.out hb)
  clear hb
  have hz0 : w6.cell? ⟨g1, 0, none⟩ = some (.int .i64 a0) := (blk_cell BK1.out 0).trans rfl
  have hf0 := blk_frozen BK1.out 0
  have hz1 : w6.cell? ⟨g1, 1, none⟩ = some (.slice A1 l1.length c1) := (blk_cell BK1.out 1).trans rfl
  have hf1 := blk_frozen BK1.out 1
  have hz2 : w6.cell? ⟨g1, 2, none⟩ = some (.int .i64 a2) := (blk_cell BK1.out 2).trans rfl
  have hf2 := blk_frozen BK1.out 2
  have hz3 : w6.cell? ⟨g1, 3, none⟩ = some (.int .i64 a3) := (blk_cell BK1.out 3).trans rfl
  have hf3 := blk_frozen BK1.out 3
  have hz4 : w6.cell? ⟨g1, 4, none⟩ = some (.slice A4 l4.length c4) := (blk_cell BK1.out 4).trans rfl
  have hf4 := blk_frozen BK1.out 4
  obtain ⟨A6, c6, e6⟩ := Kd.N_slice HQ.out
  subst e6
  go_wp2_with (first | ((with_reducible refine gate_callee (f := 46) rfl ?_); refine hold_here ?_))
  refine hold_go ?_
  obtain ⟨rows, hrows⟩ : ∃ r : List (List Int), r = [[a0 % 256]] ++ l1 ++ l4 := ⟨_, rfl⟩
  have A45' := A45.out
  rw [← hrows] at A45'
  have A46 := Aside0.mk A45'
  clear A45 A45'
  refine goesL_ (some 24) rfl rfl Try.func46 (by kernel_rfl) rfl #[.slice (some ⟨w6.heap.size, 0, none⟩) 3 3] rfl (by (try simp only [List.map_toArray, List.map_cons, List.map_nil]); first | done | rfl) ?_
  refine (concat_calls w6.heap.size A6 A1 A4 c6 c1 c4 [[a0 % 256]] l1 l4 _ (blk_new _ _) (Kd.C_alloc (Kd.N_reads' HQ.out).2.2 _) (Kd.C_alloc (Kd.C_below HR1.out HB.out) _) (Kd.C_alloc (Kd.C_below HR4.out HB.out) _) (by have := HL.out; simp only [List.length_cons, List.length_nil]; omega)).mono ?_
  rintro e w7 ⟨v, rfl, hN_, hb⟩
  refine ⟨_, rfl, ?_⟩
  rw [← hrows] at hN_
  have HN := Aside0.mk hN_
  replace BK2 := Aside0.mk (blk_below (blk_alloc BK2.out _) hb)
  replace HB := Aside0.mk (below_step (below_alloc HB.out _) hb)
  clear hN_ hb hrows HQ BK1
  clear hz0 hf0 hz1 hf1 hz2 hf2 hz3 hf3 hz4 hf4
  obtain ⟨A7, c7, e7⟩ := Kd.N_slice HN.out
  subst e7
  go_wp2_with (first | ((with_reducible refine gate_callee (f := 45) rfl ?_); refine hold_here ?_))
  refine hold_go ?_
  refine goesL_ (some 25) rfl rfl Try.func45 (by kernel_rfl) rfl #[.slice A7 rows.length c7] rfl (by (try simp only [List.map_toArray, List.map_cons, List.map_nil]); first | done | rfl) ?_
  refine (impl_PackWords.calls k A7 c7 rows r1 r2 _ (Kd.N_reads' HN.out).2.2 (Kd.N_reads' HN.out).2.1 A46.out).mono ?_
  rintro e w8 ⟨v8, rfl, ho, hb⟩
  refine ⟨_, rfl, ?_⟩
  have HO := Aside0.mk (Kd.R_lower ho (below_size HB.out))
  clear ho HN A46
  replace BK2 := Aside0.mk (blk_below BK2.out hb)
  replace HB := Aside0.mk (below_step HB.out hb)
  clear hb
  obtain ⟨A8, c8, e8⟩ := Kd.R_slice HO.out
  subst e8
  have hy0 : w8.cell? ⟨g2, 0, none⟩ = some (.int .i64 0) := (blk_cell BK2.out 0).trans rfl
  have hy1 : w8.cell? ⟨g2, 1, none⟩ = some (.slice none 0 0) := (blk_cell BK2.out 1).trans rfl
  have he0 := blk_frozen BK2.out 0
  have he1 := blk_frozen BK2.out 1
  have hn_ := NE.out
  have hm_ := fun e => NE.out (Eq.symm e)
  go_wp2
  refine bodyPost_ret (results_cell_row rfl _ _ g2 42 #[.int .i64 r1, .slice A8 r2.length c8] (0, 0) _ rfl (by refine blk_put (cs := #[.int .i64 r1, .slice none 0 0]) ?_ 1 _ rfl; refine blk_put (cs := #[.int .i64 0, .slice none 0 0]) ?_ 0 _ rfl; exact BK2.out) Try.underlying42 rfl (by kernel_rfl)) rfl ?_
  exact ⟨_, rfl, Kd.R_mono (Kd.R_far (p := ⟨g2, 1, none⟩) (Kd.R_far (p := ⟨g2, 0, none⟩) (Kd.R_types HO.out BK2.out (by decide)) (fun _ hk => hk.2) (.int .i64 r1)) (fun _ hk => hk.2) (.slice A8 r2.length c8)) (fun _ hk => trivial), below_set (below_set HB.out GE2.out) GE2.out⟩
end Go.Proofs.Ytchmaojmknfbpaa.S

/- Signatures as bytes: what the program's PackSign and the reference's come to. For all that fit. -/
set_option linter.unusedVariables false
namespace Go.Proofs.Ytchmaojmknfbpaa.S
open Go Go.RowKit Go.Proofs.YtchmaojmknfbpaaW.PrintWords Go.Proofs.YtchmaojmknfbpaaW.PrintLast Go.Proofs.YtchmaojmknfbpaaW.PrintMore Go.Proofs.Ytchmaojmknfbpaa.Base
def PlacedS (a : Int) (ps : List (List Int)) (p n : Int) : Prop := (0 ≤ a ∧ a ≤ 3) ∧ ps.length = 19 ∧ p = a ∧ n = 4
instance (a : Int) (ps : List (List Int)) (p n : Int) : Decidable (PlacedS a ps p n) := by unfold PlacedS; infer_instance
theorem isPlaced_eq (a : Int) (ps : List (List Int)) (p n : Int) (ls : List (List Int)) : impl_Signature_isPlaced.f a ps p n ls = some (decide (PlacedS a ps p n)) := by
  unfold impl_Signature_isPlaced.f impl_isLeaf.f PlacedS
  rw [in_eq]
  by_cases h : 0 ≤ a ∧ a ≤ 3
  · by_cases h2 : ps.length = 19
    · by_cases h3 : p = a
      · by_cases h4 : n = 4 <;> simp [h, h2, h3, h4]
      · simp [h, h2, h3]
    · simp [h, h2]
      omega
  · simp [h]
/-- What is answered. -/
def packSignV (a : Int) (ps : List (List Int)) (p n : Int) (L : List Bool) (ls : List (List Int)) : Int × List Int :=
  if PlacedS a ps p n ∧ Right n p L ls then packWordsV ([[a % 256]] ++ ps ++ ls) else (1, [])
theorem packSignV_length (a : Int) (ps : List (List Int)) (p n : Int) (L : List Bool) (ls : List (List Int)) : (packSignV a ps p n L ls).2.length ≤ 4000 := by
  unfold packSignV packWordsV
  split
  · split
    · simp
    · split
      · rename_i h; exact h.2
      · simp
  · simp
theorem spec_PackSign_ev (a : Int) (ps : List (List Int)) (p n : Int) (L : List Bool) (h : Placed n p → Ev (fun k => spec_l3Sides.f k n p) (L.map not)) (ls : List (List Int)) (hl : ps.length + ls.length ≤ 2000000) (hk : (packL ([[a % 256]] ++ ps ++ ls)).length ≤ 1100000) : Ev (fun k => spec_PackSign.f k a ps p n ls) (packSignV a ps p n L ls) := by
  unfold spec_PackSign.f packSignV
  have hr : Ev (fun k => spec_l4Right.f k a ps p n ls) (decide (PlacedS a ps p n ∧ Right n p L ls)) := by
    unfold spec_l4Right.f PlacedS
    refine ev_bind (ev_now (l1In_eq _ _ _)) ?_
    by_cases h1 : 0 ≤ a ∧ a ≤ 3
    · refine ev_pos (decide_eq_true h1) ?_
      by_cases h2 : ps.length = 19
      · refine ev_pos (by omega) (ev_bind (spec_right_ev n p L h ls (by omega)) ?_)
        by_cases h5 : Right n p L ls
        · refine ev_pos (decide_eq_true h5) ?_
          by_cases h3 : p = a
          · refine ev_pos h3 (ev_eq (ev_now rfl) ?_)
            by_cases h4 : n = 4 <;> simp [h1, h2, h3, h4]
            subst h3 h4
            exact h5
          · exact ev_neg h3 (ev_eq (ev_now rfl) (by simp [h3]))
        · exact ev_neg (fun g => h5 (of_decide_eq_true g)) (ev_eq (ev_now rfl) (by simp [h5]))
      · exact ev_neg (by omega) (ev_eq (ev_now rfl) (by simp [h2]))
    · exact ev_neg (fun g => h1 (of_decide_eq_true g)) (ev_eq (ev_now rfl) (by simp only [h1, false_and]; rfl))
  refine ev_bind hr ?_
  by_cases c : PlacedS a ps p n ∧ Right n p L ls
  · rw [if_pos c]
    refine ev_pos (decide_eq_true c) ?_
    simp only [Option.bind_some]
    exact ev_pos (by simp only [List.length_cons, List.length_nil]; omega) (ev_pos (by simp only [List.length_append, List.length_cons, List.length_nil]; omega) (ev_bind (spec_PackWords_ev hk) (ev_now rfl)))
  · rw [if_neg c]
    exact ev_neg (fun g => c (of_decide_eq_true g)) (ev_now rfl)
/-- The program's call, at every signature. -/
theorem packSign_impl (a : Int) (ps : List (List Int)) (p n : Int) (L : List Bool) (h : Placed n p → Ev (fun k => impl_sides.f k n p) L) (ls : List (List Int)) (hl : ps.length + ls.length ≤ 2000000) (hw : ∀ w ∈ ps, w.length ≤ 9000000000) (hw2 : ∀ w ∈ ls, w.length ≤ 9000000000) (A1 : Option Addr) (c1 : Nat) (A4 : Option Addr) (c4 : Nat) (W : World) (h1 : Kd.C (Kd.slice 5 (Kd.int .u8)) W A1 ps.length ps) (e1 : ps.length ≤ c1) (h4 : Kd.C (Kd.slice 5 (Kd.int .u8)) W A4 ls.length ls) (e4 : ls.length ≤ c4) :
    Calls Try.prog 18 #[.agg #[.int .i64 a, .slice A1 ps.length c1, .int .i64 p, .int .i64 n, .slice A4 ls.length c4]] W fun e w' => ∃ v1_ : Value, e = .returned (.agg #[.int .i64 (packSignV a ps p n L ls).1, v1_]) ∧ Kd.R (Kd.int .u8) 5 w' W.heap.size (fun _ => True) v1_ (packSignV a ps p n L ls).2 ∧ Below W.heap.size W w' := by
  unfold packSignV
  by_cases g1 : PlacedS a ps p n
  · have hp := isPlaced_eq a ps p n ls
    rw [decide_eq_true g1] at hp
    obtain ⟨kp, hq⟩ := (impl_isProof_ev n p L h ls).rounds
    by_cases g2 : Right n p L ls
    · rw [if_pos ⟨g1, g2⟩]
      have hev := impl_PackWords_ev (ws := [[a % 256]] ++ ps ++ ls) (fun w hm => by
        rcases List.mem_append.1 hm with hm | hm
        · rcases List.mem_append.1 hm with hm | hm
          · rw [List.mem_singleton.1 hm]; simp
          · have := hw w hm; omega
        · have := hw2 w hm; omega)
      have hboth : Ev (fun k => (impl_isProof.f k p n ls).bind fun b => (impl_PackWords.f k ([[a % 256]] ++ ps ++ ls)).bind fun r => some (b, r)) (true, packWordsV ([[a % 256]] ++ ps ++ ls)) := by
        have hq2 := impl_isProof_ev n p L h ls
        rw [decide_eq_true g2] at hq2
        exact ev_bind hq2 (ev_bind hev (ev_now rfl))
      obtain ⟨k, hk⟩ := hboth.rounds
      obtain ⟨b, hb, hk⟩ := Option.bind_eq_some_iff.1 hk
      obtain ⟨r, hr, hk⟩ := Option.bind_eq_some_iff.1 hk
      injection hk with hk
      injection hk with hk1 hk2
      subst hk1 hk2
      exact packSign_ok k a A1 c1 ps p n A4 c4 ls (packWordsV ([[a % 256]] ++ ps ++ ls)).1 (packWordsV ([[a % 256]] ++ ps ++ ls)).2 W h1 e1 h4 e4 hp hb (by omega) hr
    · rw [if_neg (fun h => g2 h.2)]
      rw [decide_eq_false g2] at hq
      exact packSign_bad kp a A1 c1 ps p n A4 c4 ls W h1 e1 h4 e4 hp hq
  · rw [if_neg (fun h => g1 h.1)]
    have hp := isPlaced_eq a ps p n ls
    rw [decide_eq_false g1] at hp
    exact packSign_no 0 a A1 c1 ps p n A4 c4 ls W h1 e1 h4 e4 hp
end Go.Proofs.Ytchmaojmknfbpaa.S

/- What the laws' markByteS and heldByteS come to: places are numbered from a start on, and found numbered so. For every slice and start that fit. -/
set_option linter.unusedVariables false
namespace Go.Proofs.Ytchmaojmknfbpaa.S
open Go.RowKit Go.Proofs.YtchmaojmknfbpaaW.PrintWords Go.Proofs.YtchmaojmknfbpaaW.PrintLast Go.Proofs.YtchmaojmknfbpaaW.PrintMore Go.Proofs.Ytchmaojmknfbpaa.Base

/-- n places numbered from a on. -/
def marked (a : Int) (n : Nat) : List Int := (List.range n).map fun (j : Nat) => (a + (j : Int)) % 256
theorem marked_length (a : Int) (n : Nat) : (marked a n).length = n := by simp [marked]
theorem marked_at (a : Int) (n j : Nat) (h : j < n) : (marked a n)[j]? = some ((a + (j : Int)) % 256) := by
  simp [marked, List.getElem?_map, List.getElem?_range h]
theorem markByteS_l0 (a : Int) (n : Nat) (h0 : 0 ≤ a) (h1 : a + n ≤ 4611686018427387904) : ∀ (d i : Nat) (x : List Int), i + d = n → x.length = n → (∀ j, j < i → x[j]? = (marked a n)[j]?) → Ev (fun k => laws_markByteS.l0 k x (a + (i : Int)) (i : Int)) (a + (n : Int), marked a n) := by
  intro d
  induction d with
  | zero =>
    intro i x hi hx hj
    refine ev_step (fun k => laws_markByteS.l0.eq_2 _ _ _ _) (ev_neg (by omega) ?_)
    have e : x = marked a n := fill_all (by rw [marked_length]; exact hx) (fun j h => hj j (by rw [marked_length] at h; omega))
    rw [e, show i = n by omega]
    exact ev_now rfl
  | succ d ih =>
    intro i x hi hx hj
    refine ev_step (fun k => laws_markByteS.l0.eq_2 _ _ _ _) (ev_pos (by omega) (ev_pos (by omega) ?_))
    rw [w64s (by omega), w64 (n := a + (i : Int) + 1) (by omega) (by omega), Int.toNat_natCast, show a + (i : Int) + 1 = a + ((i + 1 : Nat) : Int) by omega]
    refine ih (i + 1) _ (by omega) (by rw [List.length_set]; exact hx) ?_
    intro j hj'
    rw [List.getElem?_set]
    by_cases e : i = j
    · subst e
      rw [if_pos rfl, if_pos (by omega), marked_at a n i (by omega)]
    · rw [if_neg e]; exact hj j (by omega)
theorem markByteS_ev (l : List Int) (a : Int) (h0 : 0 ≤ a) (h1 : a + l.length ≤ 4611686018427387904) : Ev (fun k => laws_markByteS.f k l a) (a + (l.length : Int), marked a l.length) := by
  have h := markByteS_l0 a l.length h0 h1 l.length 0 l (by omega) rfl (fun j h => by omega)
  rw [show a + ((0 : Nat) : Int) = a by omega] at h
  exact h
theorem heldByteS_l0 (a : Int) (n : Nat) (h0 : 0 ≤ a) (h1 : a + n ≤ 4611686018427387904) : ∀ (d i : Nat), i + d = n → Ev (fun k => laws_heldByteS.l0 k (marked a n) (a + (i : Int)) (i : Int)) (a + (n : Int)) := by
  intro d
  induction d with
  | zero =>
    intro i hi
    refine ev_step (fun k => laws_heldByteS.l0.eq_2 _ _ _ _) (ev_neg (by rw [marked_length]; omega) ?_)
    rw [show i = n by omega]
    exact ev_now rfl
  | succ d ih =>
    intro i hi
    refine ev_step (fun k => laws_heldByteS.l0.eq_2 _ _ _ _) (ev_pos (by rw [marked_length]; omega) (ev_pos (by omega) (ev_pos ?_ ?_)))
    · unfold rd
      rw [List.getD_eq_getElem?_getD, Int.toNat_natCast, marked_at a n i (by omega)]
      rfl
    · rw [w64s (by omega), w64 (n := a + (i : Int) + 1) (by omega) (by omega), show a + (i : Int) + 1 = a + ((i + 1 : Nat) : Int) by omega]
      exact ih (i + 1) (by omega)
theorem heldByteS_ev (n : Nat) (a : Int) (h0 : 0 ≤ a) (h1 : a + n ≤ 4611686018427387904) : Ev (fun k => laws_heldByteS.f k (marked a n) a) (a + (n : Int)) := by
  have h := heldByteS_l0 a n h0 h1 n 0 (by omega)
  rw [show a + ((0 : Nat) : Int) = a by omega] at h
  exact h
end Go.Proofs.Ytchmaojmknfbpaa.S

/- What the laws' helpers on a BytesResult come to. For every result that fits. -/
set_option linter.unusedVariables false
namespace Go.Proofs.Ytchmaojmknfbpaa.S
open Go.RowKit Go.Proofs.YtchmaojmknfbpaaW.PrintWords Go.Proofs.YtchmaojmknfbpaaW.PrintLast Go.Proofs.YtchmaojmknfbpaaW.PrintMore Go.Proofs.Ytchmaojmknfbpaa.Base

theorem eqBytesResult_ev (c : Int) (l : List Int) (hl : l.length ≤ 281474976710656) : Ev (fun k => laws_eqBytesResult.f k c l c l) true := by
  unfold laws_eqBytesResult.f
  exact ev_pos rfl (ev_bind (eqByteS_ev l hl) (ev_pos rfl (ev_now rfl)))
theorem markBytesResult_ev (c : Int) (l : List Int) (hl : l.length ≤ 281474976710656) : Ev (fun k => laws_markBytesResult.f k c l 1) (1 + (l.length : Int), marked 1 l.length) := by
  unfold laws_markBytesResult.f
  exact ev_bind (markByteS_ev l 1 (by omega) (by omega)) (ev_now rfl)
theorem heldBytesResult_ev (c : Int) (n : Nat) (hl : n ≤ 281474976710656) : Ev (fun k => laws_heldBytesResult.f k c (marked 1 n) 1) (1 + (n : Int)) := by
  unfold laws_heldBytesResult.f
  exact ev_bind (heldByteS_ev n 1 (by omega) (by omega)) (ev_neg (by omega) (ev_now rfl))
end Go.Proofs.Ytchmaojmknfbpaa.S

/- Steps of regions that draw their order: a box made, a struct stored, a whole array loaded; words that are read. No condition beyond those in the statements. -/
set_option linter.unusedVariables false
set_option linter.unusedSimpArgs false
namespace Go.Proofs.Ytchmaojmknfbpaa.S
open Go Go.RowKit Go.Proofs.YtchmaojmknfbpaaW.PrintWords Go.Proofs.YtchmaojmknfbpaaW.PrintLast Go.Proofs.YtchmaojmknfbpaaW.PrintMore Go.Proofs.Ytchmaojmknfbpaa.Base

end Go.Proofs.Ytchmaojmknfbpaa.S

/- What the laws' marks make of rows of rows. No condition beyond those in the statements. -/
set_option linter.unusedVariables false
set_option linter.unusedSimpArgs false
namespace Go.Proofs.Ytchmaojmknfbpaa.S
open Go Go.RowKit Go.Proofs.YtchmaojmknfbpaaW.PrintWords Go.Proofs.YtchmaojmknfbpaaW.PrintLast Go.Proofs.YtchmaojmknfbpaaW.PrintMore Go.Proofs.Ytchmaojmknfbpaa.Base

/-! The marks. -/
def markAll (a : Int) : List (List Int) → List (List Int)
  | [] => []
  | l :: r => marked a l.length :: markAll (a + (l.length : Int)) r
theorem markAll_length : ∀ (ls : List (List Int)) (a : Int), (markAll a ls).length = ls.length
  | [], _ => rfl
  | l :: r, a => by simp [markAll, markAll_length r]
/-- Where row i's marks begin. -/
def offs (ls : List (List Int)) (i : Nat) : Nat := (ls.take i).flatten.length
theorem offs_step (ls : List (List Int)) (i : Nat) (h : i < ls.length) : offs ls (i + 1) = offs ls i + ls[i].length := by
  unfold offs
  rw [List.take_succ_eq_append_getElem h, List.flatten_append, List.length_append]
  simp
theorem offs_le (ls : List (List Int)) (i : Nat) : offs ls i ≤ ls.flatten.length := by
  unfold offs
  have h := congrArg List.length (congrArg List.flatten (List.take_append_drop i ls))
  rw [List.flatten_append, List.length_append] at h
  omega
theorem markAll_get : ∀ (ls : List (List Int)) (a : Int) (i : Nat) (h : i < ls.length), (markAll a ls)[i]? = some (marked (a + (offs ls i : Int)) ls[i].length)
  | [], _, i, h => by simp at h
  | l :: r, a, 0, h => by simp [markAll, offs]
  | l :: r, a, i + 1, h => by
    have h2 : i < r.length := by simpa using h
    have e : offs (l :: r) (i + 1) = l.length + offs r i := by simp [offs]
    show (markAll (a + (l.length : Int)) r)[i]? = _
    rw [markAll_get r (a + (l.length : Int)) i h2, e]
    simp only [List.getElem_cons_succ]
    rw [show a + (l.length : Int) + (offs r i : Int) = a + ((l.length + offs r i : Nat) : Int) by omega]
def midSS (a : Int) (ls : List (List Int)) (i : Nat) : List (List Int) := (markAll a ls).take i ++ ls.drop i
theorem midSS_length (a : Int) (ls : List (List Int)) (i : Nat) (h : i ≤ ls.length) : (midSS a ls i).length = ls.length := by
  simp [midSS, markAll_length]
  omega
theorem midSS_get (a : Int) (ls : List (List Int)) (i : Nat) (h : i < ls.length) : (midSS a ls i)[i]? = some ls[i] := by
  have hl : ((markAll a ls).take i).length = i := by rw [List.length_take, markAll_length]; omega
  unfold midSS
  rw [List.getElem?_append_right (by omega), hl, Nat.sub_self, List.getElem?_drop]
  simp [h]
theorem midSS_step (a : Int) (ls : List (List Int)) (i : Nat) (h : i < ls.length) : (midSS a ls i).set i (marked (a + (offs ls i : Int)) ls[i].length) = midSS a ls (i + 1) := by
  have hl : ((markAll a ls).take i).length = i := by rw [List.length_take, markAll_length]; omega
  have hg := markAll_get ls a i h
  have hlt : i < (markAll a ls).length := by rw [markAll_length]; exact h
  rw [List.getElem?_eq_getElem hlt] at hg
  have hg := Option.some.inj hg
  unfold midSS
  rw [List.set_append_right _ _ (by omega), hl, Nat.sub_self, List.drop_eq_getElem_cons h, List.set_cons_zero, List.take_succ_eq_append_getElem hlt, hg, List.append_assoc]
  rfl
theorem midSS_all (a : Int) (ls : List (List Int)) : midSS a ls ls.length = markAll a ls := by
  unfold midSS
  rw [List.take_of_length_le (by rw [markAll_length]; exact Nat.le_refl _), List.drop_of_length_le (Nat.le_refl _), List.append_nil]
end Go.Proofs.Ytchmaojmknfbpaa.S

/- The laws' mark of rows of rows: it writes these rows alone, place by place. No condition beyond those in the statement. -/
set_option linter.unusedVariables false
set_option linter.unusedSimpArgs false
namespace Go.Proofs.Ytchmaojmknfbpaa.S
open Go Go.RowKit Go.Proofs.YtchmaojmknfbpaaW.PrintWords Go.Proofs.YtchmaojmknfbpaaW.PrintLast Go.Proofs.YtchmaojmknfbpaaW.PrintMore Go.Proofs.Ytchmaojmknfbpaa.Base
attribute [local go_sem] max2_int min2_int max_two min_two max_three min_three max_four min_four

end Go.Proofs.Ytchmaojmknfbpaa.S

/- Two slices of rows of bytes of the call's own, no row of which shares memory with another; the laws' mark of one of them. No condition beyond those in the statements. -/
set_option linter.unusedVariables false
set_option linter.unusedSimpArgs false
namespace Go.Proofs.Ytchmaojmknfbpaa.S
open Go Go.RowKit Go.Proofs.YtchmaojmknfbpaaW.PrintWords Go.Proofs.YtchmaojmknfbpaaW.PrintLast Go.Proofs.YtchmaojmknfbpaaW.PrintMore Go.Proofs.Ytchmaojmknfbpaa.Base
attribute [local go_sem] max2_int min2_int max_two min_two max_three min_three max_four min_four

/-- Rows of bytes: their own memory in ok; the row of rows in none of bad. -/
def AK (base : Nat) (w : World) (lo hi : Nat) (ok bad : Nat → Prop) (A : Option Addr) (ls : List (List Int)) : Prop :=
  ls.length ≤ 9223372036854775807 ∧ (ls = [] ∨ ∃ (ad : Addr) (vs : Nat → Value), A = some ad ∧ ((lo ≤ ad.block ∧ ad.block < hi) ∧ ¬ bad ad.block) ∧
    (∀ i, (h : i < ls.length) → w.cell? (ad.add i) = some (vs i) ∧ Kd.R (Kd.int .u8) 5 w base (fun k => some k = (vs i).ownBlock) (vs i) ls[i]) ∧
    (∀ i k, i < ls.length → (vs i).ownBlock = some k → ok k) ∧
    (∀ i j k, i < ls.length → j < ls.length → i ≠ j → (vs i).ownBlock = some k → (vs j).ownBlock ≠ some k))
section
variable {base lo hi a b : Nat} {ok bad q : Nat → Prop} {w w1 : World} {A A1 A2 : Option Addr} {ls l1 l2 : List (List Int)}
theorem AK.below (h : AK base w lo hi ok bad A ls) (hb : Below w.heap.size w w1) : AK base w1 lo hi ok bad A ls := by
  refine ⟨h.1, h.2.imp id ?_⟩
  rintro ⟨ad, vs, hA, hg, hr, hin, hap⟩
  exact ⟨ad, vs, hA, hg, fun i hi => ⟨(hb.cell (World.block_lt_of_cell? w _ (hr i hi).1)).trans (hr i hi).1, Kd.R_below (hr i hi).2 hb⟩, hin, hap⟩
theorem AK.kept (h : AK base w lo hi ok bad A ls) (hk : Kept w w1 q) (h1 : ∀ k, ok k → ¬ q k) (h2 : ∀ k, lo ≤ k → k < hi → q k → bad k) : AK base w1 lo hi ok bad A ls := by
  refine ⟨h.1, h.2.imp id ?_⟩
  rintro ⟨ad, vs, hA, hg, hr, hin, hap⟩
  exact ⟨ad, vs, hA, hg, fun i hi => ⟨cell_kept (hr i hi).1 hk (by rw [add_block]; exact fun hq => hg.2 (h2 _ hg.1.1 hg.1.2 hq)), Kd.R_kept (hr i hi).2 hk (fun k hk2 => h1 k (hin i k hi hk2.symm))⟩, hin, hap⟩
theorem AK.ar (h : AK base w lo hi ok bad A ls) (h1 : ∀ k, ok k → (lo ≤ k ∧ k < hi) ∧ bad k) : AR base w lo hi A ls := by
  refine ⟨h.1, h.2.imp id ?_⟩
  rintro ⟨ad, vs, hA, hg, hr, hin, hap⟩
  exact ⟨ad, vs, hA, hg.1, hr, fun i k hi hk => ⟨(h1 k (hin i k hi hk)).1, fun e => hg.2 (e ▸ (h1 k (hin i k hi hk)).2)⟩, hap⟩
/-- Two slices of rows: no row of the one is one of the other, and no row lies where one of the slices does. -/
def SG (base : Nat) (w : World) (lo hi : Nat) (A1 : Option Addr) (l1 : List (List Int)) (A2 : Option Addr) (l2 : List (List Int)) : Prop :=
  ∃ ok1 ok2 : Nat → Prop, (∀ k, ok1 k → (lo ≤ k ∧ k < hi) ∧ ¬ ok2 k) ∧ (∀ k, ok2 k → (lo ≤ k ∧ k < hi) ∧ ¬ ok1 k) ∧ AK base w lo hi ok1 (fun k => ok1 k ∨ ok2 k) A1 l1 ∧ AK base w lo hi ok2 (fun k => ok1 k ∨ ok2 k) A2 l2
theorem SG.below (h : SG base w lo hi A1 l1 A2 l2) (hb : Below w.heap.size w w1) : SG base w1 lo hi A1 l1 A2 l2 := by
  obtain ⟨o1, o2, h1, h2, h3, h4⟩ := h
  exact ⟨o1, o2, h1, h2, h3.below hb, h4.below hb⟩
theorem SG.kept (h : SG base w lo hi A1 l1 A2 l2) (hk : Kept w w1 (In a b)) (hd : hi ≤ a ∨ b ≤ lo) : SG base w1 lo hi A1 l1 A2 l2 := by
  obtain ⟨o1, o2, h1, h2, h3, h4⟩ := h
  have e : ∀ k, lo ≤ k → k < hi → In a b k → o1 k ∨ o2 k := fun k a1 a2 a3 => absurd a3 (In_apart hd k ⟨a1, a2⟩)
  exact ⟨o1, o2, h1, h2, h3.kept hk (fun k ho => In_apart hd k (h1 k ho).1) e, h4.kept hk (fun k ho => In_apart hd k (h2 k ho).1) e⟩
theorem SG.drew (h : SG base w lo hi A1 l1 A2 l2) : SG base w.drew lo hi A1 l1 A2 l2 := h.below (below_drew1 (Below.refl _ _))
theorem SG.ar1 (h : SG base w lo hi A1 l1 A2 l2) : AR base w lo hi A1 l1 := by
  obtain ⟨o1, o2, h1, h2, h3, h4⟩ := h
  exact h3.ar (fun k hk => ⟨(h1 k hk).1, .inl hk⟩)
theorem SG.ar2 (h : SG base w lo hi A1 l1 A2 l2) : AR base w lo hi A2 l2 := by
  obtain ⟨o1, o2, h1, h2, h3, h4⟩ := h
  exact h4.ar (fun k hk => ⟨(h2 k hk).1, .inr hk⟩)
/-- Slices that were made apart. -/
theorem SG.of_AR {a1 b1 a2 b2 : Nat} (h1 : AR base w a1 b1 A1 l1) (h2 : AR base w a2 b2 A2 l2) (hd : b1 ≤ a2 ∨ b2 ≤ a1) (hl1 : lo ≤ a1) (hl2 : lo ≤ a2) (hh1 : b1 ≤ hi) (hh2 : b2 ≤ hi) : SG base w lo hi A1 l1 A2 l2 := by
  refine ⟨fun k => (a1 ≤ k ∧ k < b1) ∧ A1.map (·.block) ≠ some k, fun k => (a2 ≤ k ∧ k < b2) ∧ A2.map (·.block) ≠ some k, fun k hk => ⟨by have := hk.1; omega, fun h => by have := hk.1; have := h.1; omega⟩, fun k hk => ⟨by have := hk.1; omega, fun h => by have := hk.1; have := h.1; omega⟩, ⟨h1.1, h1.2.imp id ?_⟩, ⟨h2.1, h2.2.imp id ?_⟩⟩
  · rintro ⟨ad, vs, rfl, hg, hr, hin, hap⟩
    refine ⟨ad, vs, rfl, ⟨by omega, fun h => ?_⟩, hr, fun i k hi hk => ⟨(hin i k hi hk).1, fun e => (hin i k hi hk).2 (Option.some.inj e).symm⟩, hap⟩
    rcases h with h | h
    · exact h.2 rfl
    · have := h.1; omega
  · rintro ⟨ad, vs, rfl, hg, hr, hin, hap⟩
    refine ⟨ad, vs, rfl, ⟨by omega, fun h => ?_⟩, hr, fun i k hi hk => ⟨(hin i k hi hk).1, fun e => (hin i k hi hk).2 (Option.some.inj e).symm⟩, hap⟩
    rcases h with h | h
    · have := h.1; omega
    · exact h.2 rfl
theorem AK.lower {b2 : Nat} (h : AK base w lo hi ok bad A ls) (hb : b2 ≤ base) : AK b2 w lo hi ok bad A ls := by
  refine ⟨h.1, h.2.imp id ?_⟩
  rintro ⟨ad, vs, hA, hg, hr, hin, hap⟩
  exact ⟨ad, vs, hA, hg, fun i hi => ⟨(hr i hi).1, Kd.R_lower (hr i hi).2 hb⟩, hin, hap⟩
theorem SG.lower {b2 : Nat} (h : SG base w lo hi A1 l1 A2 l2) (hb : b2 ≤ base) : SG b2 w lo hi A1 l1 A2 l2 := by
  obtain ⟨o1, o2, h1, h2, h3, h4⟩ := h
  exact ⟨o1, o2, h1, h2, h3.lower hb, h4.lower hb⟩
end
theorem AR_of_S_hi {hi : Nat} {e base base0 : Nat} {ok : Nat → Prop} {w : World} {v : Value} {ls : List (List Int)} (h : Kd.S (Kd.slice 5 (Kd.int .u8)) e w base0 ok v ls) (hb : base ≤ base0) (hlt : ∀ k, ok k → k < hi) :
    ∃ A c, v = .slice A ls.length c ∧ ls.length ≤ c ∧ AR base w base0 (min hi w.heap.size) A ls := by
  have hR := Kd.S_R h
  obtain ⟨A, c, rfl⟩ := Kd.R_slice hR
  obtain ⟨_, hc, hC⟩ := Kd.R_reads' hR
  refine ⟨A, c, rfl, hc, hC.2.1, ?_⟩
  by_cases hz : ls = []
  · exact .inl hz
  have hp : 0 < ls.length := by cases ls with
    | nil => exact absurd rfl hz
    | cons x l => simp
  obtain ⟨f, hf⟩ := h
  obtain ⟨g, cap, hv, hg0, hg1, cells, hcells⟩ := Kd.R_form hR hp
  injection hv with hv1 hv2 hv3
  subst hv1
  have each : ∀ i, (hi : i < ls.length) → ∃ u, w.cell? ⟨g, i, none⟩ = some u ∧ Kd.R (Kd.int .u8) 5 w base0 (fun k => (ok k ∧ k ≠ g) ∧ f k = i) u ls[i] := fun i hi => by
    obtain ⟨cs, hcl, hM, hcc, _⟩ := Kd.R_elem (d := Kd.tag f (Kd.slice 5 (Kd.int .u8))) hf ([], 0) (i : Int) (by omega) (by omega)
    have e1 : ls.zipIdx.getD (i : Int).toNat ([], 0) = (ls[i], i) := by
      rw [Int.toNat_natCast, List.getD_eq_getElem?_getD, Kd.zip_at (List.getElem?_eq_getElem hi)]
      rfl
    rw [e1] at hM
    obtain ⟨u, rfl, hu⟩ := hM
    refine ⟨u, ?_, hu⟩
    have h1 := hcc 0 u rfl
    rw [Int.toNat_natCast] at h1
    have h2 : w.cell? ⟨g, i * 1 + 0, none⟩ = some u := h1
    rwa [Nat.mul_one, Nat.add_zero] at h2
  refine .inr ⟨⟨g, 0, none⟩, fun i => (w.cell? ⟨g, i, none⟩).getD (.bool false), rfl, ⟨hg0, Nat.lt_min.mpr ⟨hlt g (hR.1 g rfl), hg1⟩⟩, fun i hi => ?_, fun i k hi hk => ?_, fun i j k hi hj hij hk hk2 => ?_⟩
  · obtain ⟨u, hu, hr⟩ := each i hi
    rw [add_plain]
    simp only [hu, Option.getD_some]
    exact ⟨trivial, Kd.R_lower (Kd.R_tight rfl hr) hb⟩
  · obtain ⟨u, hu, hr⟩ := each i hi
    simp only [hu, Option.getD_some] at hk
    have hq := (Kd.R_bound hr).1 k hk
    have hq2 := hlt k hq.1.1.1
    have hq3 := hq.2.2.1
    exact ⟨⟨hq.2.1, Nat.lt_min.mpr ⟨hq2, hq3⟩⟩, hq.1.1.2⟩
  · obtain ⟨u, hu, hr⟩ := each i hi
    obtain ⟨u2, hu2, hr2⟩ := each j hj
    simp only [hu, Option.getD_some] at hk
    simp only [hu2, Option.getD_some] at hk2
    have h1 := (hr.1 k hk).2
    have h2 := (hr2.1 k hk2).2
    omega
theorem SG_of_S {e m base base2 : Nat} {ok1 ok2 : Nat → Prop} {w : World} {v1 v2 : Value} {l1 l2 : List (List Int)} (h1 : Kd.S (Kd.slice 5 (Kd.int .u8)) e w m ok1 v1 l1) (h2 : Kd.S (Kd.slice 5 (Kd.int .u8)) e w base ok2 v2 l2) (hm : base ≤ m) (hlt : ∀ k, ok2 k → k < m) (hb : base2 ≤ base) :
    ∃ A1 c1 A2 c2, v1 = .slice A1 l1.length c1 ∧ v2 = .slice A2 l2.length c2 ∧ l1.length ≤ c1 ∧ l2.length ≤ c2 ∧ SG base2 w base w.heap.size A1 l1 A2 l2 := by
  obtain ⟨A1, c1, e1, g1, a1⟩ := AR_of_S h1 (Nat.le_trans hb hm)
  obtain ⟨A2, c2, e2, g2, a2⟩ := AR_of_S_hi h2 hb hlt
  exact ⟨A1, c1, A2, c2, e1, e2, g1, g2, SG.of_AR a1 a2 (.inr (Nat.min_le_left _ _)) hm (Nat.le_refl _) (Nat.le_refl _) (Nat.min_le_right _ _)⟩
theorem AK.put {base : Nat} {w w1 : World} {ad : Addr} {vs : Nat → Value} {ls : List (List Int)} {i : Nat} {l2 : List Int}
    (hr : ∀ i, (h : i < ls.length) → w.cell? (ad.add i) = some (vs i) ∧ Kd.R (Kd.int .u8) 5 w base (fun k => some k = (vs i).ownBlock) (vs i) ls[i])
    (hin : ∀ i k, i < ls.length → (vs i).ownBlock = some k → k ≠ ad.block)
    (hap : ∀ i j k, i < ls.length → j < ls.length → i ≠ j → (vs i).ownBlock = some k → (vs j).ownBlock ≠ some k)
    (hi_ : i < ls.length) (h2 : Kd.R (Kd.int .u8) 5 w1 base (fun k => some k = (vs i).ownBlock) (vs i) l2) (hk : Kept w w1 (fun k => some k = (vs i).ownBlock)) :
    (∀ j, (h : j < (ls.set i l2).length) → w1.cell? (ad.add j) = some (vs j) ∧ Kd.R (Kd.int .u8) 5 w1 base (fun k => some k = (vs j).ownBlock) (vs j) (ls.set i l2)[j]) := by
  intro j hj
  have hj2 : j < ls.length := by simpa using hj
  obtain ⟨hc, hR⟩ := hr j hj2
  refine ⟨cell_kept hc hk (by rw [add_block]; exact fun e => hin i _ hi_ e.symm rfl), ?_⟩
  rw [List.getElem_set]
  split
  · rename_i e
    subst e
    exact h2
  · rename_i e
    exact Kd.R_kept hR hk (fun k hk1 hk2 => hap i j k hi_ hj2 e hk2.symm hk1.symm)

set_option maxHeartbeats 8000000 in
set_option maxRecDepth 100000 in
theorem markAK_calls (ls : List (List Int)) (a : Int) (h0 : 0 ≤ a) (h1 : a + (ls.flatten.length : Int) ≤ 4611686018427387904) (w0 w : World) (lo hi : Nat) (ok bad : Nat → Prop) (hob : ∀ k, ok k → bad k) (A : Option Addr) (c : Nat) (hB : Below w0.heap.size w0 w) (hA : AK w0.heap.size w lo hi ok bad A ls) (hc : ls.length ≤ c) (hl : ls.length ≤ 1000000000) :
    Calls Try.prog 49 #[.slice A ls.length c, .int .i64 a] w fun e w' => e = .returned (.int .i64 (a + (ls.flatten.length : Int))) ∧ AK w0.heap.size w' lo hi ok bad A (markAll a ls) ∧ Below w0.heap.size w0 w' ∧ Kept w w' ok := by
  rcases hA with ⟨hlen, rfl | ⟨ad, vs, rfl, hg, hr, hin, hap⟩⟩
  · have HB := Aside0.mk hB
    have e0 : a + (([] : List (List Int)).flatten.length : Int) = a := by simp
    rw [e0]
    clear hB
    go_enter Try.func49, Try.ntmps49
    go_wp2
    go_loopg [1, 5] 0 (fun kq v1 v5 w' => v1 = .int .i64 a ∧ v5 = .int .i64 0 ∧ w' = w)
    case atStart => exact ⟨rfl, rfl, rfl⟩
    case round =>
      obtain ⟨rfl, rfl, rfl⟩ := hrel
      go_wp2
      go_ret
      exact ⟨rfl, (⟨by simp [markAll], .inl rfl⟩ : AK _ _ _ _ _ _ _ _), HB.out, Kept.refl _ _⟩
  · have HI := Aside0.mk (show ∀ i k, i < ls.length → (vs i).ownBlock = some k → ok k ∧ k ≠ ad.block from fun i k hi hk => ⟨hin i k hi hk, fun e => hg.2 (e ▸ hob k (hin i k hi hk))⟩)
    have HP := Aside0.mk hap
    have HG := Aside0.mk hg
    have HN := Aside0.mk hlen
    have HL := Aside0.mk hl
    have H0 := Aside0.mk h0
    have H1 := Aside0.mk h1
    have HB := Aside0.mk hB
    have HR := Aside0.mk (show ∀ i, (h : i < (midSS a ls 0).length) → w.cell? (ad.add i) = some (vs i) ∧ Kd.R (Kd.int .u8) 5 w w0.heap.size (fun k => some k = (vs i).ownBlock) (vs i) (midSS a ls 0)[i] from hr)
    have HK := Aside0.mk (Kept.refl w ok)
    clear hin hap hg hlen hl h0 h1 hB hr hc
    go_enter Try.func49, Try.ntmps49
    go_wp2
    go_loopg [1, 5] ls.length (fun kq v1 v5 w' => ∃ i : Nat, v5 = .int .i64 (i : Int) ∧ v1 = .int .i64 (a + (offs ls i : Int)) ∧ Aside0 (i + kq = ls.length) ∧ Aside0 (∀ j, (h : j < (midSS a ls i).length) → w'.cell? (ad.add j) = some (vs j) ∧ Kd.R (Kd.int .u8) 5 w' w0.heap.size (fun k => some k = (vs j).ownBlock) (vs j) (midSS a ls i)[j]) ∧ Aside0 (Below w0.heap.size w0 w') ∧ Aside0 (Kept w w' ok))
    case atStart => exact ⟨0, rfl, by simp [offs], ⟨by omega⟩, HR, HB, HK⟩
    case round =>
      clear HR HB HK
      obtain ⟨i, rfl, rfl, HJ, HR, HB, HK⟩ := hrel
      cases gk with
      | zero =>
        have e := HJ.out
        obtain rfl : i = ls.length := by omega
        have e1 : offs ls ls.length = ls.flatten.length := by unfold offs; rw [List.take_of_length_le (Nat.le_refl _)]
        rw [e1]
        have HA := Aside0.mk (show AK w0.heap.size wr lo hi ok bad (some ad) (markAll a ls) from ⟨by rw [markAll_length]; exact HN.out, .inr ⟨ad, vs, rfl, HG.out, fun j hj => by
          have := HR.out j (by rw [midSS_all]; exact hj)
          simp only [midSS_all] at this
          exact this, fun j k hj hk => (HI.out j k (by rw [markAll_length] at hj; exact hj) hk).1, fun j j2 k hj hj2 hne hk => HP.out j j2 k (by rw [markAll_length] at hj; exact hj) (by rw [markAll_length] at hj2; exact hj2) hne hk⟩⟩)
        have c1_ : decide ((ls.length : Int) < (ls.length : Int)) = false := decide_eq_false (by omega)
        clear e HR
        go_wp2
        go_ret
        exact ⟨rfl, HA.out, HB.out, HK.out⟩
      | succ k1 =>
        have e := HJ.out
        have hlt : i < ls.length := by omega
        have hll := HL.out
        have c1_ : decide ((i : Int) < (ls.length : Int)) = true := decide_eq_true (by omega)
        have p0 : (0 ≤ (i : Int)) = True := eq_true (by omega)
        have p1 : ((i : Int) < (ls.length : Int)) = True := eq_true (by omega)
        have hml := midSS_length a ls i (by omega)
        obtain ⟨hx, hRi⟩ := HR.out i (by omega)
        have hgi := midSS_get a ls i hlt
        rw [List.getElem?_eq_getElem (show i < (midSS a ls i).length by omega)] at hgi
        rw [Option.some.inj hgi] at hRi
        have ho := offs_step ls i hlt
        have hst := midSS_step a ls i hlt
        obtain ⟨row, hrow⟩ : ∃ r, r = ls[i] := ⟨_, rfl⟩
        rw [← hrow] at hRi ho hst
        have hol := offs_le ls (i + 1)
        have H0' := H0.out
        have H1' := H1.out
        obtain ⟨km, hkm⟩ := (markByteS_ev row (a + (offs ls i : Int)) (by omega) (by omega)).rounds
        have HM := Aside0.mk hkm
        have HRi := Aside0.mk hRi
        have HO := Aside0.mk (show a + (offs ls i : Int) + (row.length : Int) = a + (offs ls (i + 1) : Int) by omega)
        have HS := Aside0.mk hst
        have HML := Aside0.mk hml
        have HLT := Aside0.mk hlt
        clear hkm hRi e hll hml hgi ho hol H0' H1' hst hrow hlt
        go_wp2_with (first | (go_at_call 12; refine (laws_markByteS.calls km (fun k => some k = (vs i).ownBlock) (vs i) row _ _ _ w0 _ HB.out HRi.out HM.out).mono ?_; rintro e w1 ⟨rfl, hR1, hb1, hk1⟩; have HR1 := Aside0.mk hR1; have HB1 := Aside0.mk hb1; have HK1 := Aside0.mk hk1; clear hR1 hb1 hk1))
        rw [HO.out]
        have HK2 := Aside0.mk (show Kept w w1 ok from HK.out.then_ HK1.out (fun k hk => .inl (HI.out i k HLT.out hk.symm).1))
        have HR2 := Aside0.mk (AK.put HR.out (fun j k hj hk => (HI.out j k (by rw [← HML.out]; exact hj) hk).2) (fun j j2 k hj hj2 hne hk => HP.out j j2 k (by rw [← HML.out]; exact hj) (by rw [← HML.out]; exact hj2) hne hk) (by rw [HML.out]; exact HLT.out) (Kd.R_tight rfl HR1.out) HK1.out)
        have HR3 := Aside0.mk (show ∀ j, (h : j < (midSS a ls (i + 1)).length) → w1.cell? (ad.add j) = some (vs j) ∧ Kd.R (Kd.int .u8) 5 w1 w0.heap.size (fun k => some k = (vs j).ownBlock) (vs j) (midSS a ls (i + 1))[j] from by
          have h := HR2.out
          simp only [HS.out] at h
          exact h)
        clear hx HR HR1 HR2 HB HK HK1 HRi
        go_roundg k1
        case measure => have := HJ.out; omega
        case rel => exact ⟨i + 1, by first | rfl | (rw [w64s (by have := HJ.out; have := HL.out; omega)]), rfl, ⟨by have := HJ.out; omega⟩, HR3, HB1, HK2⟩

/-- The mark of a signature's parts, and of its path behind them. -/
theorem markSG1_calls (l1 l2 : List (List Int)) (a : Int) (h0 : 0 ≤ a) (n : Nat) (hn : l1.flatten.length = n) (h1 : a + (n : Int) ≤ 4611686018427387904) (w0 w : World) (lo hi : Nat) (A1 A2 : Option Addr) (c : Nat) (hB : Below w0.heap.size w0 w) (hA : SG w0.heap.size w lo hi A1 l1 A2 l2) (hc : l1.length ≤ c) (hl : l1.length ≤ 1000000000) :
    Calls Try.prog 49 #[.slice A1 l1.length c, .int .i64 a] w fun e w' => e = .returned (.int .i64 (a + (n : Int))) ∧ SG w0.heap.size w' lo hi A1 (markAll a l1) A2 l2 ∧ Below w0.heap.size w0 w' ∧ Kept w w' (In lo hi) := by
  subst hn
  obtain ⟨o1, o2, g1, g2, g3, g4⟩ := hA
  refine (markAK_calls l1 a h0 h1 w0 w lo hi o1 _ (fun k hk => .inl hk) A1 c hB g3 hc hl).mono fun e w' h => ?_
  obtain ⟨rfl, ha, hb, hk⟩ := h
  exact ⟨rfl, ⟨o1, o2, g1, g2, ha, g4.kept hk (fun k ho => (g2 k ho).2) (fun k _ _ hq => .inl hq)⟩, hb, hk.mono (fun k ho => (g1 k ho).1)⟩
theorem markSG2_calls (l1 l2 : List (List Int)) (a : Int) (h0 : 0 ≤ a) (n : Nat) (hn : l2.flatten.length = n) (h1 : a + (n : Int) ≤ 4611686018427387904) (w0 w : World) (lo hi : Nat) (A1 A2 : Option Addr) (c : Nat) (hB : Below w0.heap.size w0 w) (hA : SG w0.heap.size w lo hi A1 l1 A2 l2) (hc : l2.length ≤ c) (hl : l2.length ≤ 1000000000) :
    Calls Try.prog 49 #[.slice A2 l2.length c, .int .i64 a] w fun e w' => e = .returned (.int .i64 (a + (n : Int))) ∧ SG w0.heap.size w' lo hi A1 l1 A2 (markAll a l2) ∧ Below w0.heap.size w0 w' ∧ Kept w w' (In lo hi) := by
  subst hn
  obtain ⟨o1, o2, g1, g2, g3, g4⟩ := hA
  refine (markAK_calls l2 a h0 h1 w0 w lo hi o2 _ (fun k hk => .inr hk) A2 c hB g4 hc hl).mono fun e w' h => ?_
  obtain ⟨rfl, ha, hb, hk⟩ := h
  exact ⟨rfl, ⟨o1, o2, g1, g2, g3.kept hk (fun k ho => (g1 k ho).2) (fun k _ _ hq => .inr hq), ha⟩, hb, hk.mono (fun k ho => (g2 k ho).1)⟩

end Go.Proofs.Ytchmaojmknfbpaa.S

/- The laws' marks of a signature; the look at a SignResult that is marked. No condition beyond those in the statements. -/
set_option linter.unusedVariables false
set_option linter.unusedSimpArgs false
namespace Go.Proofs.Ytchmaojmknfbpaa.S
open Go Go.RowKit Go.Proofs.YtchmaojmknfbpaaW.PrintWords Go.Proofs.YtchmaojmknfbpaaW.PrintLast Go.Proofs.YtchmaojmknfbpaaW.PrintMore Go.Proofs.Ytchmaojmknfbpaa.Base
attribute [local go_sem] max2_int min2_int max_two min_two max_three min_three max_four min_four
set_option maxHeartbeats 80000000 in
set_option maxRecDepth 100000 in
theorem markProofG_calls (r3 : Int) (r4 : Int) (l1 l2 : List (List Int)) (a : Int) (h0 : 0 ≤ a) (n2 : Nat) (hn2 : l2.flatten.length = n2) (h1 : a + (n2 : Int) ≤ 4611686018427387904) (w0 w : World) (lo hi : Nat) (A1 A2 : Option Addr) (c2 : Nat) (hB : Below w0.heap.size w0 w) (hA : SG w0.heap.size w lo hi A1 l1 A2 l2) (hc2 : l2.length ≤ c2) (hl2 : l2.length ≤ 1000000000) (hh : hi ≤ w.heap.size) :
    Calls Try.prog 50 #[.agg #[.int .i64 r3, .int .i64 r4, .slice A2 l2.length c2], .int .i64 a] w fun e w' => e = .returned (.int .i64 (a + (n2 : Int))) ∧ SG w0.heap.size w' lo hi A1 l1 A2 (markAll a l2) ∧ Below w0.heap.size w0 w' ∧ Kept w w' (In lo hi) := by
  have hu1_ := Try.underlying29
  have hu2_ := Try.underlying27
  have hu3_ := Try.underlying25
  have HA1 := Aside0.mk hA
  have HB1 := Aside0.mk hB
  have H0 := Aside0.mk h0
  have H1 := Aside0.mk h1
  have HH := Aside0.mk hh
  have HC2 := Aside0.mk hc2
  have HL2 := Aside0.mk hl2
  have HN2 := Aside0.mk hn2
  clear hA hB h0 h1 hh hc2 hl2 hn2
  go_enter Try.func50, Try.ntmps50
  go_wp2_with (first | ((with_reducible refine gate_dst (N := 2) rfl ?_); refine hold_here ?_))
  refine hold_go ?_
  refine box_event (N := 2) (cs := #[.int .i64 r3, .int .i64 r4, .slice A2 l2.length c2]) (t := 25) ?hgb rfl ?hrb ?_
  case hgb => rfl
  case hrb => first | (go_simp; done) | (go_simp; rfl)
  intro g hg w1 hbox hb
  have HA2 := Aside0.mk (HA1.out.below hb)
  have HB2 := Aside0.mk (below_then HB1.out HB1.out.size hb)
  have HK2 := Aside0.mk (Kept.of_below hb (In lo hi))
  have HG := Aside0.mk (show hi ≤ g by rw [hg]; exact HH.out)
  have BX := Aside0.mk hbox
  clear HA1 HB1 hb hbox hg
  have hz0 : w1.cell? ⟨g, 0, none⟩ = some (.int .i64 r3) := (blk_cell BX.out 0).trans rfl
  have hf0 := blk_frozen BX.out 0
  have hz1 : w1.cell? ⟨g, 1, none⟩ = some (.int .i64 r4) := (blk_cell BX.out 1).trans rfl
  have hf1 := blk_frozen BX.out 1
  have hz2 : w1.cell? ⟨g, 2, none⟩ = some (.slice A2 l2.length c2) := (blk_cell BX.out 2).trans rfl
  have hf2 := blk_frozen BX.out 2
  go_wp2_with (first | ((with_reducible refine gate_callee (f := 49) rfl ?_); refine hold_here ?_))
  refine hold_go ?_
  refine goesL_ (some 8) rfl rfl Try.func49 (by kernel_rfl) rfl #[.slice A2 l2.length c2, .int .i64 a] rfl (by (try simp only [List.map_toArray, List.map_cons, List.map_nil]); first | done | rfl) ?_
  refine (markSG2_calls l1 l2 a H0.out n2 HN2.out H1.out w0 _ lo hi A1 A2 c2 HB2.out HA2.out HC2.out HL2.out).mono ?_
  rintro e w10 ⟨rfl, ha, hb2, hk⟩
  refine ⟨_, rfl, ?_⟩
  have HA3 := Aside0.mk ha
  have HB3 := Aside0.mk hb2
  have HK3 := Aside0.mk (HK2.out.then_ hk (fun k h => .inl h))
  have BX3 := Aside0.mk (blk_keptIn BX.out hk (.inr HG.out))
  clear hz0 hf0 hz1 hf1 hz2 hf2 ha hb2 hk HA2 HB2 HK2 BX
  have HA2 := HA3
  have HB2 := HB3
  have HK2 := HK3
  have BX := BX3
  clear HA3 HB3 HK3 BX3
  go_wp2
  go_ret
  exact ⟨rfl, HA2.out, HB2.out, HK2.out⟩
set_option maxHeartbeats 80000000 in
set_option maxRecDepth 100000 in
theorem markSignature_calls (r1 : Int) (r3 : Int) (r4 : Int) (l1 l2 : List (List Int)) (a : Int) (h0 : 0 ≤ a) (n1 : Nat) (hn1 : l1.flatten.length = n1) (n2 : Nat) (hn2 : l2.flatten.length = n2) (h1 : a + (n1 : Int) + (n2 : Int) ≤ 4611686018427387904) (w0 w : World) (lo hi : Nat) (A1 : Option Addr) (c1 : Nat) (A2 : Option Addr) (c2 : Nat) (hB : Below w0.heap.size w0 w) (hA : SG w0.heap.size w lo hi A1 l1 A2 l2) (hc1 : l1.length ≤ c1) (hc2 : l2.length ≤ c2) (hl1 : l1.length ≤ 1000000000) (hl2 : l2.length ≤ 1000000000) (hh : hi ≤ w.heap.size) :
    Calls Try.prog 21 #[.agg #[.int .i64 r1, .slice A1 l1.length c1, .int .i64 r3, .int .i64 r4, .slice A2 l2.length c2], .int .i64 a] w fun e w' => e = .returned (.int .i64 (a + (n1 : Int) + (n2 : Int))) ∧ SG w0.heap.size w' lo hi A1 (markAll a l1) A2 (markAll (a + (n1 : Int)) l2) ∧ Below w0.heap.size w0 w' ∧ Kept w w' (In lo hi) := by
  have hu1_ := Try.underlying29
  have hu2_ := Try.underlying27
  have hu3_ := Try.underlying25
  have HA1 := Aside0.mk hA
  have HB1 := Aside0.mk hB
  have H0 := Aside0.mk h0
  have H1 := Aside0.mk h1
  have HH := Aside0.mk hh
  have HC1 := Aside0.mk hc1
  have HL1 := Aside0.mk hl1
  have HN1 := Aside0.mk hn1
  have HC2 := Aside0.mk hc2
  have HL2 := Aside0.mk hl2
  have HN2 := Aside0.mk hn2
  clear hA hB h0 h1 hh hc1 hl1 hn1 hc2 hl2 hn2
  go_enter Try.func21, Try.ntmps21
  go_wp2_with (first | ((with_reducible refine gate_dst (N := 2) rfl ?_); refine hold_here ?_))
  refine hold_go ?_
  refine box_event (N := 2) (cs := #[.int .i64 r1, .slice A1 l1.length c1, .int .i64 r3, .int .i64 r4, .slice A2 l2.length c2]) (t := 27) ?hgb rfl ?hrb ?_
  case hgb => rfl
  case hrb => first | (go_simp; done) | (go_simp; rfl)
  intro g hg w1 hbox hb
  have HA2 := Aside0.mk (HA1.out.below hb)
  have HB2 := Aside0.mk (below_then HB1.out HB1.out.size hb)
  have HK2 := Aside0.mk (Kept.of_below hb (In lo hi))
  have HG := Aside0.mk (show hi ≤ g by rw [hg]; exact HH.out)
  have BX := Aside0.mk hbox
  clear HA1 HB1 hb hbox hg
  have hz0 : w1.cell? ⟨g, 0, none⟩ = some (.int .i64 r1) := (blk_cell BX.out 0).trans rfl
  have hf0 := blk_frozen BX.out 0
  have hz1 : w1.cell? ⟨g, 1, none⟩ = some (.slice A1 l1.length c1) := (blk_cell BX.out 1).trans rfl
  have hf1 := blk_frozen BX.out 1
  have hz2 : w1.cell? ⟨g, 2, none⟩ = some (.int .i64 r3) := (blk_cell BX.out 2).trans rfl
  have hf2 := blk_frozen BX.out 2
  have hz3 : w1.cell? ⟨g, 3, none⟩ = some (.int .i64 r4) := (blk_cell BX.out 3).trans rfl
  have hf3 := blk_frozen BX.out 3
  have hz4 : w1.cell? ⟨g, 4, none⟩ = some (.slice A2 l2.length c2) := (blk_cell BX.out 4).trans rfl
  have hf4 := blk_frozen BX.out 4
  go_wp2_with (first | ((with_reducible refine gate_callee (f := 49) rfl ?_); refine hold_here ?_))
  refine hold_go ?_
  refine goesL_ (some 8) rfl rfl Try.func49 (by kernel_rfl) rfl #[.slice A1 l1.length c1, .int .i64 a] rfl (by (try simp only [List.map_toArray, List.map_cons, List.map_nil]); first | done | rfl) ?_
  refine (markSG1_calls l1 l2 a H0.out n1 HN1.out (by have := H1.out; omega) w0 _ lo hi A1 A2 c1 HB2.out HA2.out HC1.out HL1.out).mono ?_
  rintro e w10 ⟨rfl, ha, hb2, hk⟩
  refine ⟨_, rfl, ?_⟩
  have HA3 := Aside0.mk ha
  have HB3 := Aside0.mk hb2
  have HK3 := Aside0.mk (HK2.out.then_ hk (fun k h => .inl h))
  have BX3 := Aside0.mk (blk_keptIn BX.out hk (.inr HG.out))
  clear hz0 hf0 hz1 hf1 hz2 hf2 hz3 hf3 hz4 hf4 ha hb2 hk HA2 HB2 HK2 BX
  have HA2 := HA3
  have HB2 := HB3
  have HK2 := HK3
  have BX := BX3
  clear HA3 HB3 HK3 BX3
  have hz0 : w10.cell? ⟨g, 0, none⟩ = some (.int .i64 r1) := (blk_cell BX.out 0).trans rfl
  have hf0 := blk_frozen BX.out 0
  have hz1 : w10.cell? ⟨g, 1, none⟩ = some (.slice A1 l1.length c1) := (blk_cell BX.out 1).trans rfl
  have hf1 := blk_frozen BX.out 1
  have hz2 : w10.cell? ⟨g, 2, none⟩ = some (.int .i64 r3) := (blk_cell BX.out 2).trans rfl
  have hf2 := blk_frozen BX.out 2
  have hz3 : w10.cell? ⟨g, 3, none⟩ = some (.int .i64 r4) := (blk_cell BX.out 3).trans rfl
  have hf3 := blk_frozen BX.out 3
  have hz4 : w10.cell? ⟨g, 4, none⟩ = some (.slice A2 l2.length c2) := (blk_cell BX.out 4).trans rfl
  have hf4 := blk_frozen BX.out 4
  go_wp2_with (first | ((with_reducible refine gate_callee (f := 50) rfl ?_); refine hold_here ?_))
  refine hold_go ?_
  refine goesL_ (some 12) rfl rfl Try.func50 (by kernel_rfl) rfl #[.agg #[.int .i64 r3, .int .i64 r4, .slice A2 l2.length c2], .int .i64 (a + (n1 : Int))] rfl (by (try simp only [List.map_toArray, List.map_cons, List.map_nil]); first | done | rfl) ?_
  refine (markProofG_calls r3 r4 (markAll a l1) l2 (a + (n1 : Int)) (by have := H0.out; omega) n2 HN2.out H1.out w0 _ lo hi A1 A2 c2 HB2.out HA2.out HC2.out HL2.out (Nat.le_trans HH.out HK2.out.1)).mono ?_
  rintro e w11 ⟨rfl, ha, hb2, hk⟩
  refine ⟨_, rfl, ?_⟩
  have HA3 := Aside0.mk ha
  have HB3 := Aside0.mk hb2
  have HK3 := Aside0.mk (HK2.out.then_ hk (fun k h => .inl h))
  have BX3 := Aside0.mk (blk_keptIn BX.out hk (.inr HG.out))
  clear hz0 hf0 hz1 hf1 hz2 hf2 hz3 hf3 hz4 hf4 ha hb2 hk HA2 HB2 HK2 BX
  have HA2 := HA3
  have HB2 := HB3
  have HK2 := HK3
  have BX := BX3
  clear HA3 HB3 HK3 BX3
  go_wp2
  go_ret
  exact ⟨rfl, HA2.out, HB2.out, HK2.out⟩
end Go.Proofs.Ytchmaojmknfbpaa.S

/- The laws' marks with their totals told by a variable; the look at a BytesResult that is marked. No condition beyond those in the statements. -/
set_option linter.unusedVariables false
set_option linter.unusedSimpArgs false
namespace Go.Proofs.Ytchmaojmknfbpaa.S
open Go Go.RowKit Go.Proofs.YtchmaojmknfbpaaW.PrintWords Go.Proofs.YtchmaojmknfbpaaW.PrintLast Go.Proofs.YtchmaojmknfbpaaW.PrintMore Go.Proofs.Ytchmaojmknfbpaa.Base
attribute [local go_sem] max2_int min2_int max_two min_two max_three min_three max_four min_four

theorem heldBytesResult_len (k : Nat) (r1 : Int) (A : Option Addr) (c : Nat) (ms : List Int) (n : Nat) (hn : ms.length = n) (a r : Int) (w : World) (hr : Kd.C (Kd.int .u8) w A ms.length ms) (hc : n ≤ c) (h : laws_heldBytesResult.f k r1 ms a = some r) :
    Calls Try.prog 23 #[.agg #[.int .i64 r1, .slice A n c], .int .i64 a] w fun e w' => e = .returned (.int .i64 r) ∧ Below w.heap.size w w' := by
  subst hn
  exact laws_heldBytesResult.calls k r1 A c ms a r w hr hc h

end Go.Proofs.Ytchmaojmknfbpaa.S

/- laws.toSignature: the parts' memory lies below one block, the path's at or above it. The walk is the printer's, with that told. No condition beyond those in the statements. -/
set_option linter.unusedVariables false
set_option linter.unusedSimpArgs false
namespace Go.Proofs.Ytchmaojmknfbpaa.S
open Go Go.RowKit Go.Proofs.YtchmaojmknfbpaaW.PrintWords Go.Proofs.YtchmaojmknfbpaaW.PrintLast Go.Proofs.YtchmaojmknfbpaaW.PrintMore
attribute [local go_sem] max2_int min2_int max_two min_two max_three min_three max_four min_four
set_option maxHeartbeats 8000000 in
set_option maxRecDepth 100000 in
theorem laws_toSignature.callsG (k : Nat) (a0_0 : Int) (A0_1 : Option Addr) (c0_1 : Nat) (l0_1 : List (List Int)) (a0_2 : Int) (a0_3 : Int) (A0_4 : Option Addr) (c0_4 : Nat) (l0_4 : List (List Int)) (r1 : Int) (r2 : List (List Int)) (r3 : Int) (r4 : Int) (r5 : List (List Int)) (w : World) (hr0_1 : Kd.C (Kd.slice 5 (Kd.int .u8)) w A0_1 l0_1.length l0_1) (hc0_1 : l0_1.length ≤ c0_1) (hr0_4 : Kd.C (Kd.slice 5 (Kd.int .u8)) w A0_4 l0_4.length l0_4) (hc0_4 : l0_4.length ≤ c0_4) (h : laws_toSignature.f k a0_0 l0_1 a0_2 a0_3 l0_4 = some (r1, r2, r3, r4, r5)) :
    Calls Try.prog 17 #[.agg #[.int .i64 a0_0, .slice A0_1 l0_1.length c0_1, .int .i64 a0_2, .int .i64 a0_3, .slice A0_4 l0_4.length c0_4]] w fun e w' => ∃ (m_ : Nat) (v1_ v4_ : Value), e = .returned (.agg #[.int .i64 r1, v1_, .int .i64 r3, .int .i64 r4, v4_]) ∧ w.heap.size ≤ m_ ∧ Kd.S (Kd.slice 5 (Kd.int .u8)) 22 w' w.heap.size (fun k_ => some k_ ≠ (v4_ : Value).ownBlock ∧ k_ < m_) v1_ r2 ∧ Kd.S (Kd.slice 5 (Kd.int .u8)) 22 w' m_ (fun k_ => some k_ ≠ (v1_ : Value).ownBlock) v4_ r5 ∧ Below w.heap.size w w' := by
  have hu39 := Try.underlying39
  have hu27 := Try.underlying27
  have hu37 := Try.underlying37
  have hu25 := Try.underlying25
  have HR0_1 := Aside0.mk hr0_1
  have HC0_1 := Aside0.mk hc0_1
  clear hr0_1 hc0_1
  have HR0_4 := Aside0.mk hr0_4
  have HC0_4 := Aside0.mk hc0_4
  clear hr0_4 hc0_4
  have HB := Aside0.mk (Below.refl w.heap.size w)
  have H : ((laws_toByteSS.f k l0_1).bind fun t197 => ((laws_toProof.f k a0_2 a0_3 l0_4).bind fun bt200 => (some (a0_0, t197, bt200.1, bt200.2.1, bt200.2.2)))) = some (r1, r2, r3, r4, r5) := h
  clear h
  replace H := Option.bind_eq_some_iff.mp H
  obtain ⟨t197, A20, H⟩ := H
  replace H : ((laws_toProof.f k a0_2 a0_3 l0_4).bind fun bt200 => (some (a0_0, t197, bt200.1, bt200.2.1, bt200.2.2))) = some (r1, r2, r3, r4, r5) := H
  have A2 := Aside0.mk A20
  clear A20
  replace H := Option.bind_eq_some_iff.mp H
  obtain ⟨⟨t200, t201, t202⟩, A30, H⟩ := H
  replace H : (some (a0_0, t197, t200, t201, t202)) = some (r1, r2, r3, r4, r5) := H
  have A3 := Aside0.mk A30
  clear A30
  simp only [Option.some.injEq, Prod.mk.injEq] at H
  obtain ⟨rfl, rfl, rfl, rfl, rfl⟩ := H
  go_enter Try.func17, Try.ntmps17
  go_wp2_with (first | ((with_reducible refine gate_dst (N := 1) rfl ?_); refine box_event ?hg (N := 1) ?hd (cs := #[.int .i64 a0_0, .slice A0_1 l0_1.length c0_1, .int .i64 a0_2, .int .i64 a0_3, .slice A0_4 l0_4.length c0_4]) (t := 39) ?hr ?_; (case hd => rfl); (case hg => rfl); (case hr => first | (go_simp; done) | (go_simp; rfl)); intro gb194 hg w4 hbox hb; have n0_ := Aside0.mk (below_step (by repeat (first | (with_reducible first | exact HB.out | apply below_alloc | apply pw_below_drewN | apply below_drew1) | exact HB.out)) hb); have n1_ := Aside0.mk (hbox); have n2_ := Aside0.mk ((by rw [hg]; exact (below_size (by repeat (first | (with_reducible first | exact HB.out | apply below_alloc | apply pw_below_drewN | apply below_drew1) | exact HB.out))) : w.heap.size ≤ gb194)); have n3_ := Aside0.mk ((by rw [hg]; exact (below_size (by repeat (first | (with_reducible first | exact HB.out | apply below_alloc | apply pw_below_drewN | apply below_drew1) | exact HB.out))) : w.heap.size ≤ gb194)); clear HB; have HB := n0_; have BK194 := n1_; have GW194 := n2_; have GE194 := n3_; clear n0_ n1_ n2_ n3_; clear hb hbox hg) | ((with_reducible refine gate_dst (N := 2) rfl ?_); refine box_event ?hg (N := 2) ?hd (cs := #[.int .i64 0, .slice none 0 0, .int .i64 0, .int .i64 0, .slice none 0 0]) (t := 27) ?hr ?_; (case hd => rfl); (case hg => rfl); (case hr => first | (go_simp; done) | (go_simp; rfl)); intro gb195 hg w5 hbox hb; have n0_ := Aside0.mk (blk_below (g := gb194) (o := .cells #[.int .i64 a0_0, .slice A0_1 l0_1.length c0_1, .int .i64 a0_2, .int .i64 a0_3, .slice A0_4 l0_4.length c0_4] 39 (0, 0)) (by (with_reducible repeat (first | refine blk_drewN ?_ _ | refine blk_drew ?_ | refine blk_alloc ?_ _)); exact BK194.out) hb); have n1_ := Aside0.mk (below_step (by repeat (first | (with_reducible first | exact HB.out | apply below_alloc | apply pw_below_drewN | apply below_drew1 | refine below_set ?_ GE194.out) | exact HB.out)) hb); have n2_ := Aside0.mk (hbox); have n3_ := Aside0.mk ((by rw [hg]; exact (below_size (by repeat (first | (with_reducible first | exact HB.out | apply below_alloc | apply pw_below_drewN | apply below_drew1 | refine below_set ?_ GE194.out) | exact HB.out))) : w.heap.size ≤ gb195)); have n4_ := Aside0.mk ((by rw [hg]; exact (below_size (by repeat (first | (with_reducible first | exact HB.out | apply below_alloc | apply pw_below_drewN | apply below_drew1 | refine below_set ?_ GE194.out) | exact HB.out))) : w.heap.size ≤ gb195)); have n5_ := Aside0.mk ((by rw [hg]; exact Nat.ne_of_lt (blk_lt (g := gb194) (o := .cells #[.int .i64 a0_0, .slice A0_1 l0_1.length c0_1, .int .i64 a0_2, .int .i64 a0_3, .slice A0_4 l0_4.length c0_4] 39 (0, 0)) (by (with_reducible repeat (first | refine blk_drewN ?_ _ | refine blk_drew ?_ | refine blk_alloc ?_ _)); exact BK194.out)) : gb194 ≠ gb195)); have n6_ := Aside0.mk ((by rw [hg]; exact Nat.ne_of_gt (blk_lt (g := gb194) (o := .cells #[.int .i64 a0_0, .slice A0_1 l0_1.length c0_1, .int .i64 a0_2, .int .i64 a0_3, .slice A0_4 l0_4.length c0_4] 39 (0, 0)) (by (with_reducible repeat (first | refine blk_drewN ?_ _ | refine blk_drew ?_ | refine blk_alloc ?_ _)); exact BK194.out)) : gb195 ≠ gb194)); clear BK194; clear HB; have BK194 := n0_; have HB := n1_; have BK195 := n2_; have GW195 := n3_; have GE195 := n4_; have NB194_195 := n5_; have NB195_194 := n6_; clear n0_ n1_ n2_ n3_ n4_ n5_ n6_; clear hb hbox hg) | ((with_reducible refine gate_dst (N := 3) rfl ?_); refine box_event ?hg (N := 3) ?hd (cs := #[.int .i64 0, .slice none 0 0, .int .i64 0, .int .i64 0, .slice none 0 0]) (t := 27) ?hr ?_; (case hd => rfl); (case hg => rfl); (case hr => first | (go_simp; done) | (go_simp; rfl)); intro gb196 hg w6 hbox hb; have n0_ := Aside0.mk (blk_below (g := gb194) (o := .cells #[.int .i64 a0_0, .slice A0_1 l0_1.length c0_1, .int .i64 a0_2, .int .i64 a0_3, .slice A0_4 l0_4.length c0_4] 39 (0, 0)) (by (with_reducible repeat (first | refine blk_drewN ?_ _ | refine blk_drew ?_ | refine blk_alloc ?_ _)); exact BK194.out) hb); have n1_ := Aside0.mk (blk_below (g := gb195) (o := .cells #[.int .i64 0, .slice none 0 0, .int .i64 0, .int .i64 0, .slice none 0 0] 27 (0, 0)) (by (with_reducible repeat (first | refine blk_drewN ?_ _ | refine blk_drew ?_ | refine blk_alloc ?_ _)); exact BK195.out) hb); have n2_ := Aside0.mk (below_step (by repeat (first | (with_reducible first | exact HB.out | apply below_alloc | apply pw_below_drewN | apply below_drew1 | refine below_set ?_ GE194.out | refine below_set ?_ GE195.out) | exact HB.out)) hb); have n3_ := Aside0.mk (hbox); have n4_ := Aside0.mk ((by rw [hg]; exact (below_size (by repeat (first | (with_reducible first | exact HB.out | apply below_alloc | apply pw_below_drewN | apply below_drew1 | refine below_set ?_ GE194.out | refine below_set ?_ GE195.out) | exact HB.out))) : w.heap.size ≤ gb196)); have n5_ := Aside0.mk ((by rw [hg]; exact (below_size (by repeat (first | (with_reducible first | exact HB.out | apply below_alloc | apply pw_below_drewN | apply below_drew1 | refine below_set ?_ GE194.out | refine below_set ?_ GE195.out) | exact HB.out))) : w.heap.size ≤ gb196)); have n6_ := Aside0.mk ((by rw [hg]; exact Nat.ne_of_lt (blk_lt (g := gb194) (o := .cells #[.int .i64 a0_0, .slice A0_1 l0_1.length c0_1, .int .i64 a0_2, .int .i64 a0_3, .slice A0_4 l0_4.length c0_4] 39 (0, 0)) (by (with_reducible repeat (first | refine blk_drewN ?_ _ | refine blk_drew ?_ | refine blk_alloc ?_ _)); exact BK194.out)) : gb194 ≠ gb196)); have n7_ := Aside0.mk ((by rw [hg]; exact Nat.ne_of_gt (blk_lt (g := gb194) (o := .cells #[.int .i64 a0_0, .slice A0_1 l0_1.length c0_1, .int .i64 a0_2, .int .i64 a0_3, .slice A0_4 l0_4.length c0_4] 39 (0, 0)) (by (with_reducible repeat (first | refine blk_drewN ?_ _ | refine blk_drew ?_ | refine blk_alloc ?_ _)); exact BK194.out)) : gb196 ≠ gb194)); have n8_ := Aside0.mk ((by rw [hg]; exact Nat.ne_of_lt (blk_lt (g := gb195) (o := .cells #[.int .i64 0, .slice none 0 0, .int .i64 0, .int .i64 0, .slice none 0 0] 27 (0, 0)) (by (with_reducible repeat (first | refine blk_drewN ?_ _ | refine blk_drew ?_ | refine blk_alloc ?_ _)); exact BK195.out)) : gb195 ≠ gb196)); have n9_ := Aside0.mk ((by rw [hg]; exact Nat.ne_of_gt (blk_lt (g := gb195) (o := .cells #[.int .i64 0, .slice none 0 0, .int .i64 0, .int .i64 0, .slice none 0 0] 27 (0, 0)) (by (with_reducible repeat (first | refine blk_drewN ?_ _ | refine blk_drew ?_ | refine blk_alloc ?_ _)); exact BK195.out)) : gb196 ≠ gb195)); clear BK194; clear BK195; clear HB; have BK194 := n0_; have BK195 := n1_; have HB := n2_; have BK196 := n3_; have GW196 := n4_; have GE196 := n5_; have NB194_196 := n6_; have NB196_194 := n7_; have NB195_196 := n8_; have NB196_195 := n9_; clear n0_ n1_ n2_ n3_ n4_ n5_ n6_ n7_ n8_ n9_; clear hb hbox hg; have hnb7 := NB194_195.out; have hnc7 := NB195_194.out; have hnb8 := NB194_196.out; have hnc8 := NB196_194.out; have hcz9_0 : w6.cell? ⟨gb194, 0, none⟩ = some (.int .i64 a0_0) := (blk_cell BK194.out 0).trans (by first | rfl | (simp only [*] <;> rfl)); have hcz9_1 : w6.cell? ⟨gb194, 1, none⟩ = some (.slice A0_1 l0_1.length c0_1) := (blk_cell BK194.out 1).trans (by first | rfl | (simp only [*] <;> rfl)); have hcz9_2 : w6.cell? ⟨gb194, 2, none⟩ = some (.int .i64 a0_2) := (blk_cell BK194.out 2).trans (by first | rfl | (simp only [*] <;> rfl)); have hcz9_3 : w6.cell? ⟨gb194, 3, none⟩ = some (.int .i64 a0_3) := (blk_cell BK194.out 3).trans (by first | rfl | (simp only [*] <;> rfl)); have hcz9_4 : w6.cell? ⟨gb194, 4, none⟩ = some (.slice A0_4 l0_4.length c0_4) := (blk_cell BK194.out 4).trans (by first | rfl | (simp only [*] <;> rfl)); have hfz9_0 := blk_frozen BK194.out 0; have hfz9_1 := blk_frozen BK194.out 1; have hfz9_2 := blk_frozen BK194.out 2; have hfz9_3 := blk_frozen BK194.out 3; have hfz9_4 := blk_frozen BK194.out 4; have hnb10 := NB196_195.out; have hnc10 := NB195_196.out; have hcz11_0 : w6.cell? ⟨gb196, 0, none⟩ = some (.int .i64 0) := (blk_cell BK196.out 0).trans (by first | rfl | (simp only [*] <;> rfl)); have hcz11_1 : w6.cell? ⟨gb196, 1, none⟩ = some (.slice none 0 0) := (blk_cell BK196.out 1).trans (by first | rfl | (simp only [*] <;> rfl)); have hcz11_2 : w6.cell? ⟨gb196, 2, none⟩ = some (.int .i64 0) := (blk_cell BK196.out 2).trans (by first | rfl | (simp only [*] <;> rfl)); have hcz11_3 : w6.cell? ⟨gb196, 3, none⟩ = some (.int .i64 0) := (blk_cell BK196.out 3).trans (by first | rfl | (simp only [*] <;> rfl)); have hcz11_4 : w6.cell? ⟨gb196, 4, none⟩ = some (.slice none 0 0) := (blk_cell BK196.out 4).trans (by first | rfl | (simp only [*] <;> rfl)); have hfz11_0 := blk_frozen BK196.out 0; have hfz11_1 := blk_frozen BK196.out 1; have hfz11_2 := blk_frozen BK196.out 2; have hfz11_3 := blk_frozen BK196.out 3; have hfz11_4 := blk_frozen BK196.out 4) | ((with_reducible refine gate_callee (f := 41) rfl ?_); refine goesL_ (some 9) rfl rfl Try.func41 (by kernel_rfl) rfl #[.slice A0_1 l0_1.length c0_1] rfl (by (try simp only [List.map_toArray, List.map_cons, List.map_nil]); first | done | rfl | (simp only [List.length_drop, List.length_take]; rfl)) ?_; (with_reducible refine (laws_toByteSS.calls k _ _ l0_1 t197 _ ?side1 ?side2 A2.out).mono ?_); (case side1 => exact Kd.C_below HR0_1.out (by repeat (first | (with_reducible first | exact HB.out | apply below_alloc | apply pw_below_drewN | apply below_drew1 | refine below_set ?_ GE194.out | refine below_set ?_ GE195.out | refine below_set ?_ GE196.out) | exact HB.out))); (case side2 => exact HC0_1.out); rintro e w12 ⟨v198, rfl, ho0, hb⟩; refine ⟨_, rfl, ?_⟩; have n0_ := Aside0.mk (Kd.S_lower ho0 (below_size (by repeat (first | (with_reducible first | exact HB.out | apply below_alloc | apply pw_below_drewN | apply below_drew1 | refine below_set ?_ GE194.out | refine below_set ?_ GE195.out | refine below_set ?_ GE196.out) | exact HB.out)))); have n1_ := Aside0.mk (blk_below (g := gb194) (o := .cells #[.int .i64 a0_0, .slice A0_1 l0_1.length c0_1, .int .i64 a0_2, .int .i64 a0_3, .slice A0_4 l0_4.length c0_4] 39 (0, 0)) (by (with_reducible repeat (first | refine blk_drewN ?_ _ | refine blk_drew ?_ | refine blk_alloc ?_ _)); refine blk_far ?_ NB194_196.out _; (with_reducible repeat (first | refine blk_drewN ?_ _ | refine blk_drew ?_ | refine blk_alloc ?_ _)); exact BK194.out) hb); have n2_ := Aside0.mk (blk_below (g := gb195) (o := .cells #[.int .i64 0, .slice none 0 0, .int .i64 0, .int .i64 0, .slice none 0 0] 27 (0, 0)) (by (with_reducible repeat (first | refine blk_drewN ?_ _ | refine blk_drew ?_ | refine blk_alloc ?_ _)); refine blk_far ?_ NB195_196.out _; (with_reducible repeat (first | refine blk_drewN ?_ _ | refine blk_drew ?_ | refine blk_alloc ?_ _)); exact BK195.out) hb); have n3_ := Aside0.mk (blk_below (g := gb196) (o := .cells #[.int .i64 a0_0, .slice none 0 0, .int .i64 0, .int .i64 0, .slice none 0 0] 27 (0, 0)) (by (with_reducible repeat (first | refine blk_drewN ?_ _ | refine blk_drew ?_ | refine blk_alloc ?_ _)); refine blk_put (cs := #[.int .i64 0, .slice none 0 0, .int .i64 0, .int .i64 0, .slice none 0 0]) ?_ 0 _ rfl; (with_reducible repeat (first | refine blk_drewN ?_ _ | refine blk_drew ?_ | refine blk_alloc ?_ _)); exact BK196.out) hb); have n4_ := Aside0.mk (below_step (by repeat (first | (with_reducible first | exact HB.out | apply below_alloc | apply pw_below_drewN | apply below_drew1 | refine below_set ?_ GE194.out | refine below_set ?_ GE195.out | refine below_set ?_ GE196.out) | exact HB.out)) hb); clear BK194; clear BK195; clear BK196; clear HB; have HO199 := n0_; have BK194 := n1_; have BK195 := n2_; have BK196 := n3_; have HB := n4_; clear n0_ n1_ n2_ n3_ n4_; (try clear hb); (try clear hb2); (try clear hk); (try clear hi); (try clear ho0); obtain ⟨Ao13, co13, eo13⟩ := Kd.S_slice HO199.out; subst eo13; have hcz14_0 : w12.cell? ⟨gb196, 0, none⟩ = some (.int .i64 a0_0) := (blk_cell BK196.out 0).trans (by first | rfl | (simp only [*] <;> rfl)); have hcz14_1 : w12.cell? ⟨gb196, 1, none⟩ = some (.slice none 0 0) := (blk_cell BK196.out 1).trans (by first | rfl | (simp only [*] <;> rfl)); have hcz14_2 : w12.cell? ⟨gb196, 2, none⟩ = some (.int .i64 0) := (blk_cell BK196.out 2).trans (by first | rfl | (simp only [*] <;> rfl)); have hcz14_3 : w12.cell? ⟨gb196, 3, none⟩ = some (.int .i64 0) := (blk_cell BK196.out 3).trans (by first | rfl | (simp only [*] <;> rfl)); have hcz14_4 : w12.cell? ⟨gb196, 4, none⟩ = some (.slice none 0 0) := (blk_cell BK196.out 4).trans (by first | rfl | (simp only [*] <;> rfl)); have hfz14_0 := blk_frozen BK196.out 0; have hfz14_1 := blk_frozen BK196.out 1; have hfz14_2 := blk_frozen BK196.out 2; have hfz14_3 := blk_frozen BK196.out 3; have hfz14_4 := blk_frozen BK196.out 4; have hcz15_0 : w12.cell? ⟨gb194, 0, none⟩ = some (.int .i64 a0_0) := (blk_cell BK194.out 0).trans (by first | rfl | (simp only [*] <;> rfl)); have hcz15_1 : w12.cell? ⟨gb194, 1, none⟩ = some (.slice A0_1 l0_1.length c0_1) := (blk_cell BK194.out 1).trans (by first | rfl | (simp only [*] <;> rfl)); have hcz15_2 : w12.cell? ⟨gb194, 2, none⟩ = some (.int .i64 a0_2) := (blk_cell BK194.out 2).trans (by first | rfl | (simp only [*] <;> rfl)); have hcz15_3 : w12.cell? ⟨gb194, 3, none⟩ = some (.int .i64 a0_3) := (blk_cell BK194.out 3).trans (by first | rfl | (simp only [*] <;> rfl)); have hcz15_4 : w12.cell? ⟨gb194, 4, none⟩ = some (.slice A0_4 l0_4.length c0_4) := (blk_cell BK194.out 4).trans (by first | rfl | (simp only [*] <;> rfl)); have hfz15_0 := blk_frozen BK194.out 0; have hfz15_1 := blk_frozen BK194.out 1; have hfz15_2 := blk_frozen BK194.out 2; have hfz15_3 := blk_frozen BK194.out 3; have hfz15_4 := blk_frozen BK194.out 4) | ((with_reducible refine gate_callee (f := 42) rfl ?_); refine goesL_ (some 13) rfl rfl Try.func42 (by kernel_rfl) rfl #[.agg #[.int .i64 a0_2, .int .i64 a0_3, .slice A0_4 l0_4.length c0_4]] rfl (by (try simp only [List.map_toArray, List.map_cons, List.map_nil]); first | done | rfl | (simp only [List.length_drop, List.length_take]; rfl)) ?_; (with_reducible refine (laws_toProof.calls k a0_2 a0_3 _ _ l0_4 t200 t201 t202 _ ?side1 ?side2 A3.out).mono ?_); (case side1 => exact Kd.C_below HR0_4.out (by repeat (first | (with_reducible first | exact HB.out | apply below_alloc | apply pw_below_drewN | apply below_drew1 | refine below_set ?_ GE194.out | refine below_set ?_ GE195.out | refine below_set ?_ GE196.out) | exact HB.out))); (case side2 => exact HC0_4.out); rintro e w16 ⟨v203, rfl, ho0, hb⟩; refine ⟨_, rfl, ?_⟩; obtain ⟨m_, hm3_, hm2_, hm1_⟩ : ∃ m_ : Nat, Kd.S (Kd.slice 5 (Kd.int .u8)) 22 w16 m_ (fun k_ => some k_ ≠ (.slice Ao13 t197.length co13 : Value).ownBlock) v203 t202 ∧ Kd.S (Kd.slice 5 (Kd.int .u8)) 22 w16 w.heap.size (fun k_ => some k_ ≠ (v203 : Value).ownBlock ∧ k_ < m_) (.slice Ao13 t197.length co13) t197 ∧ w.heap.size ≤ m_ := ⟨_, Kd.S_mono (Kd.S_new' ho0 (Kd.S_lt (by (with_reducible repeat (first | apply Kd.S_alloc | apply Kd.S_drewN | apply Kd.S_drew)); exact (Kd.S_mono (Kd.S_far (p := ⟨gb196, 1, none⟩) (Kd.S_types HO199.out BK196.out (by decide)) (fun _ hk => hk.2) (.slice Ao13 t197.length co13)) (fun _ h_ => h_.1))))) (fun _ hk => hk.2), Kd.S_mono (Kd.S_elder' (Kd.S_bound (by (with_reducible repeat (first | apply Kd.S_alloc | apply Kd.S_drewN | apply Kd.S_drew)); exact (Kd.S_mono (Kd.S_far (p := ⟨gb196, 1, none⟩) (Kd.S_types HO199.out BK196.out (by decide)) (fun _ hk => hk.2) (.slice Ao13 t197.length co13)) (fun _ h_ => h_.1)))) (Kd.S_base ho0) hb) (fun _ hk => ⟨hk.2, hk.1.2.2.1⟩), (below_size (by repeat (first | (with_reducible first | exact HB.out | apply below_alloc | apply pw_below_drewN | apply below_drew1 | refine below_set ?_ GE194.out | refine below_set ?_ GE195.out | refine below_set ?_ GE196.out) | exact HB.out)))⟩; have n0_ := Aside0.mk hm2_; have n1_ := Aside0.mk hm3_; have MM := Aside0.mk hm1_; clear hm1_ hm2_ hm3_; have n2_ := Aside0.mk (blk_below (g := gb194) (o := .cells #[.int .i64 a0_0, .slice A0_1 l0_1.length c0_1, .int .i64 a0_2, .int .i64 a0_3, .slice A0_4 l0_4.length c0_4] 39 (0, 0)) (by (with_reducible repeat (first | refine blk_drewN ?_ _ | refine blk_drew ?_ | refine blk_alloc ?_ _)); refine blk_far ?_ NB194_196.out _; (with_reducible repeat (first | refine blk_drewN ?_ _ | refine blk_drew ?_ | refine blk_alloc ?_ _)); exact BK194.out) hb); have n3_ := Aside0.mk (blk_below (g := gb195) (o := .cells #[.int .i64 0, .slice none 0 0, .int .i64 0, .int .i64 0, .slice none 0 0] 27 (0, 0)) (by (with_reducible repeat (first | refine blk_drewN ?_ _ | refine blk_drew ?_ | refine blk_alloc ?_ _)); refine blk_far ?_ NB195_196.out _; (with_reducible repeat (first | refine blk_drewN ?_ _ | refine blk_drew ?_ | refine blk_alloc ?_ _)); exact BK195.out) hb); have n4_ := Aside0.mk (blk_below (g := gb196) (o := .cells #[.int .i64 a0_0, .slice Ao13 t197.length co13, .int .i64 0, .int .i64 0, .slice none 0 0] 27 (0, 0)) (by (with_reducible repeat (first | refine blk_drewN ?_ _ | refine blk_drew ?_ | refine blk_alloc ?_ _)); refine blk_put (cs := #[.int .i64 a0_0, .slice none 0 0, .int .i64 0, .int .i64 0, .slice none 0 0]) ?_ 1 _ rfl; (with_reducible repeat (first | refine blk_drewN ?_ _ | refine blk_drew ?_ | refine blk_alloc ?_ _)); exact BK196.out) hb); have n5_ := Aside0.mk (below_step (by repeat (first | (with_reducible first | exact HB.out | apply below_alloc | apply pw_below_drewN | apply below_drew1 | refine below_set ?_ GE194.out | refine below_set ?_ GE195.out | refine below_set ?_ GE196.out) | exact HB.out)) hb); clear HO199; clear BK194; clear BK195; clear BK196; clear HB; have HO199 := n0_; have HO204 := n1_; have BK194 := n2_; have BK195 := n3_; have BK196 := n4_; have HB := n5_; clear n0_ n1_ n2_ n3_ n4_ n5_; (try clear hb); (try clear hb2); (try clear hk); (try clear hi); (try clear ho0); have hcz17_0 : w16.cell? ⟨gb196, 0, none⟩ = some (.int .i64 a0_0) := (blk_cell BK196.out 0).trans (by first | rfl | (simp only [*] <;> rfl)); have hcz17_1 : w16.cell? ⟨gb196, 1, none⟩ = some (.slice Ao13 t197.length co13) := (blk_cell BK196.out 1).trans (by first | rfl | (simp only [*] <;> rfl)); have hcz17_2 : w16.cell? ⟨gb196, 2, none⟩ = some (.int .i64 0) := (blk_cell BK196.out 2).trans (by first | rfl | (simp only [*] <;> rfl)); have hcz17_3 : w16.cell? ⟨gb196, 3, none⟩ = some (.int .i64 0) := (blk_cell BK196.out 3).trans (by first | rfl | (simp only [*] <;> rfl)); have hcz17_4 : w16.cell? ⟨gb196, 4, none⟩ = some (.slice none 0 0) := (blk_cell BK196.out 4).trans (by first | rfl | (simp only [*] <;> rfl)); have hfz17_0 := blk_frozen BK196.out 0; have hfz17_1 := blk_frozen BK196.out 1; have hfz17_2 := blk_frozen BK196.out 2; have hfz17_3 := blk_frozen BK196.out 3; have hfz17_4 := blk_frozen BK196.out 4; obtain ⟨Ao18, co18, eo18⟩ := Kd.S_slice HO204.out; subst eo18; have hcz19_0 : w16.cell? ⟨gb195, 0, none⟩ = some (.int .i64 0) := (blk_cell BK195.out 0).trans (by first | rfl | (simp only [*] <;> rfl)); have hcz19_1 : w16.cell? ⟨gb195, 1, none⟩ = some (.slice none 0 0) := (blk_cell BK195.out 1).trans (by first | rfl | (simp only [*] <;> rfl)); have hcz19_2 : w16.cell? ⟨gb195, 2, none⟩ = some (.int .i64 0) := (blk_cell BK195.out 2).trans (by first | rfl | (simp only [*] <;> rfl)); have hcz19_3 : w16.cell? ⟨gb195, 3, none⟩ = some (.int .i64 0) := (blk_cell BK195.out 3).trans (by first | rfl | (simp only [*] <;> rfl)); have hcz19_4 : w16.cell? ⟨gb195, 4, none⟩ = some (.slice none 0 0) := (blk_cell BK195.out 4).trans (by first | rfl | (simp only [*] <;> rfl)); have hfz19_0 := blk_frozen BK195.out 0; have hfz19_1 := blk_frozen BK195.out 1; have hfz19_2 := blk_frozen BK195.out 2; have hfz19_3 := blk_frozen BK195.out 3; have hfz19_4 := blk_frozen BK195.out 4))
  refine bodyPost_ret (results_cell_row rfl _ _ gb195 27 #[.int .i64 a0_0, .slice Ao13 t197.length co13, .int .i64 t200, .int .i64 t201, .slice Ao18 t202.length co18] (0, 0) _ rfl (by (with_reducible repeat (first | refine blk_drewN ?_ _ | refine blk_drew ?_ | refine blk_alloc ?_ _)); refine blk_put (cs := #[.int .i64 a0_0, .slice Ao13 t197.length co13, .int .i64 t200, .int .i64 t201, .slice none 0 0]) ?_ 4 _ rfl; (with_reducible repeat (first | refine blk_drewN ?_ _ | refine blk_drew ?_ | refine blk_alloc ?_ _)); refine blk_put (cs := #[.int .i64 a0_0, .slice Ao13 t197.length co13, .int .i64 t200, .int .i64 0, .slice none 0 0]) ?_ 3 _ rfl; (with_reducible repeat (first | refine blk_drewN ?_ _ | refine blk_drew ?_ | refine blk_alloc ?_ _)); refine blk_put (cs := #[.int .i64 a0_0, .slice Ao13 t197.length co13, .int .i64 0, .int .i64 0, .slice none 0 0]) ?_ 2 _ rfl; (with_reducible repeat (first | refine blk_drewN ?_ _ | refine blk_drew ?_ | refine blk_alloc ?_ _)); refine blk_put (cs := #[.int .i64 a0_0, .slice none 0 0, .int .i64 0, .int .i64 0, .slice none 0 0]) ?_ 1 _ rfl; (with_reducible repeat (first | refine blk_drewN ?_ _ | refine blk_drew ?_ | refine blk_alloc ?_ _)); refine blk_put (cs := #[.int .i64 0, .slice none 0 0, .int .i64 0, .int .i64 0, .slice none 0 0]) ?_ 0 _ rfl; (with_reducible repeat (first | refine blk_drewN ?_ _ | refine blk_drew ?_ | refine blk_alloc ?_ _)); refine blk_far ?_ NB195_196.out _; (with_reducible repeat (first | refine blk_drewN ?_ _ | refine blk_drew ?_ | refine blk_alloc ?_ _)); refine blk_far ?_ NB195_196.out _; (with_reducible repeat (first | refine blk_drewN ?_ _ | refine blk_drew ?_ | refine blk_alloc ?_ _)); refine blk_far ?_ NB195_196.out _; (with_reducible repeat (first | refine blk_drewN ?_ _ | refine blk_drew ?_ | refine blk_alloc ?_ _)); exact BK195.out) Try.underlying27 rfl (by kernel_rfl)) rfl ?_
  exact ⟨m_, _, _, by first | rfl | (simp [errW_none, errW_some] <;> rfl) | (simp [*, errW_none, errW_some] <;> rfl), MM.out, by (with_reducible repeat (first | apply Kd.S_alloc | apply Kd.S_drewN | apply Kd.S_drew)); exact Kd.S_mono (Kd.S_far (p := ⟨gb195, 4, none⟩) (Kd.S_far (p := ⟨gb195, 3, none⟩) (Kd.S_far (p := ⟨gb195, 2, none⟩) (Kd.S_far (p := ⟨gb195, 1, none⟩) (Kd.S_far (p := ⟨gb195, 0, none⟩) (Kd.S_far (p := ⟨gb196, 4, none⟩) (Kd.S_far (p := ⟨gb196, 3, none⟩) (Kd.S_far (p := ⟨gb196, 2, none⟩) (Kd.S_types (Kd.S_types HO199.out BK196.out (by decide)) BK195.out (by decide)) (fun _ hk => hk.1.2) (.int .i64 t200)) (fun _ hk => hk.1.2) (.int .i64 t201)) (fun _ hk => hk.1.2) (.slice Ao18 t202.length co18)) (fun _ hk => hk.2) (.int .i64 a0_0)) (fun _ hk => hk.2) (.slice Ao13 t197.length co13)) (fun _ hk => hk.2) (.int .i64 t200)) (fun _ hk => hk.2) (.int .i64 t201)) (fun _ hk => hk.2) (.slice Ao18 t202.length co18)) (fun _ hk => hk.1.1), by (with_reducible repeat (first | apply Kd.S_alloc | apply Kd.S_drewN | apply Kd.S_drew)); exact Kd.S_mono (Kd.S_far (p := ⟨gb195, 4, none⟩) (Kd.S_far (p := ⟨gb195, 3, none⟩) (Kd.S_far (p := ⟨gb195, 2, none⟩) (Kd.S_far (p := ⟨gb195, 1, none⟩) (Kd.S_far (p := ⟨gb195, 0, none⟩) (Kd.S_far (p := ⟨gb196, 4, none⟩) (Kd.S_far (p := ⟨gb196, 3, none⟩) (Kd.S_far (p := ⟨gb196, 2, none⟩) (Kd.S_types (Kd.S_types HO204.out BK196.out (by decide)) BK195.out (by decide)) (fun _ hk => hk.1.2) (.int .i64 t200)) (fun _ hk => hk.1.2) (.int .i64 t201)) (fun _ hk => hk.1.2) (.slice Ao18 t202.length co18)) (fun _ hk => hk.2) (.int .i64 a0_0)) (fun _ hk => hk.2) (.slice Ao13 t197.length co13)) (fun _ hk => hk.2) (.int .i64 t200)) (fun _ hk => hk.2) (.int .i64 t201)) (fun _ hk => hk.2) (.slice Ao18 t202.length co18)) (fun _ hk => hk.1.1), by repeat (first | (with_reducible first | exact HB.out | apply below_alloc | apply pw_below_drewN | apply below_drew1 | refine below_set ?_ GE194.out | refine below_set ?_ GE195.out | refine below_set ?_ GE196.out) | exact HB.out)⟩

theorem SG.symm {base lo hi : Nat} {w : World} {A1 A2 : Option Addr} {l1 l2 : List (List Int)} (h : SG base w lo hi A1 l1 A2 l2) : SG base w lo hi A2 l2 A1 l1 := by
  obtain ⟨o1, o2, h1, h2, h3, h4⟩ := h
  have e : (fun k => o2 k ∨ o1 k) = (fun k => o1 k ∨ o2 k) := funext fun k => propext Or.comm
  exact ⟨o2, o1, h2, h1, by rw [e]; exact h4, by rw [e]; exact h3⟩
theorem toSig_calls (k : Nat) (a0 : Int) (A1 : Option Addr) (c1 : Nat) (l1 : List (List Int)) (a2 a3 : Int) (A4 : Option Addr) (c4 : Nat) (l4 : List (List Int)) (w : World) (h1 : Kd.C (Kd.slice 5 (Kd.int .u8)) w A1 l1.length l1) (hc1 : l1.length ≤ c1) (h4 : Kd.C (Kd.slice 5 (Kd.int .u8)) w A4 l4.length l4) (hc4 : l4.length ≤ c4) (h : laws_toSignature.f k a0 l1 a2 a3 l4 = some (a0, l1, a2, a3, l4)) :
    Calls Try.prog 17 #[.agg #[.int .i64 a0, .slice A1 l1.length c1, .int .i64 a2, .int .i64 a3, .slice A4 l4.length c4]] w fun e w' => ∃ B1 d1 B4 d4, e = .returned (.agg #[.int .i64 a0, .slice B1 l1.length d1, .int .i64 a2, .int .i64 a3, .slice B4 l4.length d4]) ∧ l1.length ≤ d1 ∧ l4.length ≤ d4 ∧ SG w.heap.size w' w.heap.size w'.heap.size B1 l1 B4 l4 ∧ Below w.heap.size w w' := by
  refine (laws_toSignature.callsG k a0 A1 c1 l1 a2 a3 A4 c4 l4 a0 l1 a2 a3 l4 w h1 hc1 h4 hc4 h).mono fun e w' hh => ?_
  obtain ⟨m, v1, v4, rfl, hm, g1, g4, hb⟩ := hh
  obtain ⟨B4, d4, B1, d1, rfl, rfl, k4, k1, g⟩ := SG_of_S g4 g1 hm (fun k hk => hk.2) (Nat.le_refl _)
  exact ⟨B1, d1, B4, d4, rfl, k1, k4, g.symm, hb⟩

end Go.Proofs.Ytchmaojmknfbpaa.S

/- The walk over the law FnExactPackSign: the program and the reference are called, compared, and what they hold is marked. No condition beyond those in the statements. -/
set_option linter.unusedVariables false
set_option linter.unusedSimpArgs false
namespace Go.Proofs.Ytchmaojmknfbpaa.S
open Go Go.RowKit Go.Proofs.YtchmaojmknfbpaaW.PrintWords Go.Proofs.YtchmaojmknfbpaaW.PrintLast Go.Proofs.YtchmaojmknfbpaaW.PrintMore Go.Proofs.Ytchmaojmknfbpaa.Base
attribute [local go_sem] max2_int min2_int max_two min_two max_three min_three max_four min_four

set_option maxHeartbeats 80000000 in
set_option maxRecDepth 100000 in
theorem law_PackSign (a0 : Int) (A1 : Option Addr) (c1 : Nat) (l1 : List (List Int)) (a2 a3 : Int) (A4 : Option Addr) (c4 : Nat) (l4 : List (List Int)) (q0 : Int) (rb1 : List Int) (n1 n2 : Nat) (mr : List Int) (sz : Int) (w : World) (hr1 : Kd.C (Kd.slice 5 (Kd.int .u8)) w A1 l1.length l1) (hc1 : l1.length ≤ c1) (hr4 : Kd.C (Kd.slice 5 (Kd.int .u8)) w A4 l4.length l4) (hc4 : l4.length ≤ c4)
    (keqp keqr khr kmr kspec ksz kto : Nat) (h_sz : laws_szSignature.f ksz a0 l1 a2 a3 l4 1048576 = some sz) (h_szc : ¬ sz < 0) (h_to : laws_toSignature.f kto a0 l1 a2 a3 l4 = some (a0, l1, a2, a3, l4)) (h_eqp : laws_eqSignature.f keqp a0 l1 a2 a3 l4 a0 l1 a2 a3 l4 = some true) (h_spec : spec_PackSign.f kspec a0 l1 a2 a3 l4 = some (q0, rb1)) (h_impl : ∀ (B1 : Option Addr) (d1 : Nat) (B4 : Option Addr) (d4 : Nat) (W : World), Kd.C (Kd.slice 5 (Kd.int .u8)) W B1 l1.length l1 → l1.length ≤ d1 → Kd.C (Kd.slice 5 (Kd.int .u8)) W B4 l4.length l4 → l4.length ≤ d4 → Calls Try.prog 18 #[.agg #[.int .i64 a0, .slice B1 l1.length d1, .int .i64 a2, .int .i64 a3, .slice B4 l4.length d4]] W (fun e w' => ∃ v1_ : Value, e = .returned (.agg #[.int .i64 q0, v1_]) ∧ Kd.R (Kd.int .u8) 5 w' W.heap.size (fun _ => True) v1_ rb1 ∧ Below W.heap.size W w')) (h_eqr : laws_eqBytesResult.f keqr q0 rb1 q0 rb1 = some true) (h_n1 : l1.flatten.length = n1) (h_n2 : l4.flatten.length = n2) (h_pr : (1 : Int) + (n1 : Int) + (n2 : Int) ≤ 4611686018427387904) (h_u1 : l1.length ≤ 1000000000) (h_u4 : l4.length ≤ 1000000000) (h_mr : laws_markBytesResult.f kmr q0 rb1 1 = some (1 + (rb1.length : Int), mr)) (h_lr : mr.length = rb1.length) (h_hr : laws_heldBytesResult.f khr q0 mr 1 = some (1 + (rb1.length : Int))) :
    Calls Try.prog 4 #[.agg #[.int .i64 a0, .slice A1 l1.length c1, .int .i64 a2, .int .i64 a3, .slice A4 l4.length c4]] w fun e w' => e = .returned (.bool true) ∧ Below w.heap.size w w' := by
  have hu0_ := Try.underlying39
  have hu1_ := Try.underlying27
  have hu2_ := Try.underlying42
  have hu3_ := Try.underlying37
  have hu4_ := Try.underlying25
  have HR1 := Aside0.mk hr1
  have HC1 := Aside0.mk hc1
  have HR4 := Aside0.mk hr4
  have HC4 := Aside0.mk hc4
  have H_sz := Aside0.mk h_sz
  have H_szc := Aside0.mk h_szc
  have H_to := Aside0.mk h_to
  have H_eqp := Aside0.mk h_eqp
  have H_spec := Aside0.mk h_spec
  have H_impl := Aside0.mk h_impl
  have H_eqr := Aside0.mk h_eqr
  have H_n1 := Aside0.mk h_n1
  have H_n2 := Aside0.mk h_n2
  have H_pr := Aside0.mk h_pr
  have H_u1 := Aside0.mk h_u1
  have H_u4 := Aside0.mk h_u4
  have H_mr := Aside0.mk h_mr
  have H_lr := Aside0.mk h_lr
  have H_hr := Aside0.mk h_hr
  have HB := Aside0.mk (Below.refl w.heap.size w)
  have ZZ := Aside0.mk (Nat.le_refl w.heap.size)
  have csz_ : decide (sz < 0) = false := decide_eq_false H_szc.out
  have cz_ : decide ((1 + (rb1.length : Int)) < 0) = false := decide_eq_false (by omega)
  have cy_ : decide ((1 + (n1 : Int) + (n2 : Int)) < 0) = false := decide_eq_false (by omega)
  clear hr1 hc1 hr4 hc4 h_sz h_szc h_to h_eqp h_spec h_impl h_eqr h_n1 h_n2 h_pr h_u1 h_u4 h_mr h_lr h_hr
  go_enter Try.func4, Try.ntmps4
  go_wp2_with (first | ((with_reducible refine gate_dst (N := 1) rfl ?_); refine hold_here ?_))
  refine hold_go ?_
  refine box_event (N := 1) (cs := #[.int .i64 a0, .slice A1 l1.length c1, .int .i64 a2, .int .i64 a3, .slice A4 l4.length c4]) (t := 39) ?hgb rfl ?hrb ?_
  case hgb => rfl
  case hrb => first | (go_simp; done) | (go_simp; rfl)
  intro g1_ hg w1_ hbox hb
  replace HB := Aside0.mk (below_step HB.out hb)
  replace ZZ := Aside0.mk (And.intro ZZ.out (show w.heap.size ≤ w1_.heap.size from hb.size))
  have BK1 := Aside0.mk hbox
  replace ZZ := Aside0.mk (And.intro ZZ.out (And.intro (show g1_ = w.heap.size from hg) (show g1_ < w1_.heap.size from blk_lt hbox)))
  clear hb hbox hg
  have hz_BK1_0 : w1_.cell? ⟨g1_, 0, none⟩ = some (.int .i64 a0) := (blk_cell BK1.out 0).trans rfl
  have hz_BK1_1 : w1_.cell? ⟨g1_, 1, none⟩ = some (.slice A1 l1.length c1) := (blk_cell BK1.out 1).trans rfl
  have hz_BK1_2 : w1_.cell? ⟨g1_, 2, none⟩ = some (.int .i64 a2) := (blk_cell BK1.out 2).trans rfl
  have hz_BK1_3 : w1_.cell? ⟨g1_, 3, none⟩ = some (.int .i64 a3) := (blk_cell BK1.out 3).trans rfl
  have hz_BK1_4 : w1_.cell? ⟨g1_, 4, none⟩ = some (.slice A4 l4.length c4) := (blk_cell BK1.out 4).trans rfl
  go_wp2_with (first | (go_at_call 15; refine hold_here ?_))
  refine hold_go ?_
  refine (laws_szSignature.calls _ a0 A1 c1 l1 a2 a3 A4 c4 l4 1048576 sz _ ?s1 ?s2 ?s3 ?s4 H_sz.out).mono ?_
  case s1 => exact Kd.C_below HR1.out HB.out
  case s2 => exact HC1.out
  case s3 => exact Kd.C_below HR4.out HB.out
  case s4 => exact HC4.out
  rintro e w2_ ⟨rfl, hb⟩
  replace BK1 := Aside0.mk (blk_below BK1.out hb)
  replace HB := Aside0.mk (below_step HB.out hb)
  clear hz_BK1_0 hz_BK1_1 hz_BK1_2 hz_BK1_3 hz_BK1_4
  replace ZZ := Aside0.mk (And.intro ZZ.out (show w1_.heap.size ≤ w2_.heap.size from hb.size))
  clear hb
  have hz_BK1_0 : w2_.cell? ⟨g1_, 0, none⟩ = some (.int .i64 a0) := (blk_cell BK1.out 0).trans rfl
  have hz_BK1_1 : w2_.cell? ⟨g1_, 1, none⟩ = some (.slice A1 l1.length c1) := (blk_cell BK1.out 1).trans rfl
  have hz_BK1_2 : w2_.cell? ⟨g1_, 2, none⟩ = some (.int .i64 a2) := (blk_cell BK1.out 2).trans rfl
  have hz_BK1_3 : w2_.cell? ⟨g1_, 3, none⟩ = some (.int .i64 a3) := (blk_cell BK1.out 3).trans rfl
  have hz_BK1_4 : w2_.cell? ⟨g1_, 4, none⟩ = some (.slice A4 l4.length c4) := (blk_cell BK1.out 4).trans rfl
  go_wp2_with (first | (go_at_call 17; refine hold_here ?_))
  refine hold_go ?_
  refine (toSig_calls _ a0 A1 c1 l1 a2 a3 A4 c4 l4 _ ?s1 ?s2 ?s3 ?s4 H_to.out).mono ?_
  case s1 => exact Kd.C_below HR1.out HB.out
  case s2 => exact HC1.out
  case s3 => exact Kd.C_below HR4.out HB.out
  case s4 => exact HC4.out
  rintro e w3_ ⟨A_T01, c_T01, A_T04, c_T04, rfl, hc_1, hc_4, ha, hb⟩
  replace BK1 := Aside0.mk (blk_below BK1.out hb)
  replace HB := Aside0.mk (below_step HB.out hb)
  clear hz_BK1_0 hz_BK1_1 hz_BK1_2 hz_BK1_3 hz_BK1_4
  replace ZZ := Aside0.mk (And.intro ZZ.out (show w2_.heap.size ≤ w3_.heap.size from hb.size))
  have HC_T01 := Aside0.mk hc_1
  have HC_T04 := Aside0.mk hc_4
  have T0 := Aside0.mk (show SG w.heap.size w3_ w2_.heap.size w3_.heap.size A_T01 l1 A_T04 l4 from SG.lower ha (by have h_ := ZZ.out; omega))
  clear hc_1 hc_4 ha
  clear hb
  go_wp2_with (first | (go_at_call 16; refine hold_here ?_))
  refine hold_go ?_
  refine (spec_PackSign.calls _ a0 (In w2_.heap.size w3_.heap.size) A_T01 c_T01 l1 a2 a3 (In w2_.heap.size w3_.heap.size) A_T04 c_T04 l4 q0 rb1 _ ?s1 ?s2 H_spec.out).mono ?_
  case s1 => exact Kd.V_mk HC_T01.out (AR.foot (SG.ar1 T0.out))
  case s2 => exact Kd.V_mk HC_T04.out (AR.foot (SG.ar2 T0.out))
  rintro e w4_ ⟨v1, rfl, ho1, hb⟩
  replace BK1 := Aside0.mk (blk_below BK1.out hb)
  replace T0 := Aside0.mk (SG.below T0.out hb)
  replace HB := Aside0.mk (below_step HB.out hb)
  replace ZZ := Aside0.mk (And.intro ZZ.out (show w3_.heap.size ≤ w4_.heap.size from hb.size))
  obtain ⟨A_W1, c_W1, ev_, hA_W1⟩ := B_of_R (base := w.heap.size) ho1 (show w.heap.size ≤ w3_.heap.size from (by have h_ := ZZ.out; omega))
  subst ev_
  have W1 := Aside0.mk (show Kd.R (Kd.int .u8) 5 w4_ w.heap.size (In w3_.heap.size w4_.heap.size) (.slice A_W1 rb1.length c_W1) rb1 from hA_W1)
  clear hA_W1 ho1
  clear hb
  go_wp2_with (first | ((with_reducible refine gate_dst (N := 4) rfl ?_); refine hold_here ?_))
  refine hold_go ?_
  refine box_event (N := 4) (cs := #[.int .i64 0, .slice none 0 0]) (t := 42) ?hgb rfl ?hrb ?_
  case hgb => rfl
  case hrb => first | (go_simp; done) | (go_simp; rfl)
  intro g4_ hg w5_ hbox hb
  replace BK1 := Aside0.mk (blk_below BK1.out hb)
  replace T0 := Aside0.mk (SG.below T0.out hb)
  replace W1 := Aside0.mk (Kd.R_below W1.out hb)
  replace HB := Aside0.mk (below_step HB.out hb)
  replace ZZ := Aside0.mk (And.intro ZZ.out (show w4_.heap.size ≤ w5_.heap.size from hb.size))
  have BK4 := Aside0.mk hbox
  replace ZZ := Aside0.mk (And.intro ZZ.out (And.intro (show g4_ = w4_.heap.size from hg) (show g4_ < w5_.heap.size from blk_lt hbox)))
  clear hb hbox hg
  go_wp2_with (first | ((with_reducible refine gate_store (t := 42) (p := 4) (v := .tmp 18) rfl ?_); refine hold_here ?_))
  refine hold_go ?_
  refine row_store rfl 42 (.tmp 4) (.tmp 18) rfl g4_ #[.int .i64 q0, .slice A_W1 rb1.length c_W1] rfl ?hy 42 _ BK4.out ?hi ?ho ?h1 rfl HB.out (show w.heap.size ≤ g4_ from (by have h_ := ZZ.out; omega)) ?_
  case hy => rfl
  case hi => kernel_rfl
  case ho => rfl
  case h1 => first | rfl | (simp [Value.oneCell']; done) | (go_simp; done)
  intro w6_ bo hk hb2
  clear BK4
  replace BK1 := Aside0.mk (blk_keptIn BK1.out hk (by have h_ := ZZ.out; omega))
  replace T0 := Aside0.mk (SG.kept T0.out hk (by have h_ := ZZ.out; omega))
  replace W1 := Aside0.mk (B_kept W1.out hk (by have h_ := ZZ.out; omega))
  replace HB := Aside0.mk hb2
  replace ZZ := Aside0.mk (And.intro ZZ.out (show w5_.heap.size ≤ w6_.heap.size from hk.1))
  have BK4 := Aside0.mk bo
  clear bo hk hb2
  clear T0
  have hz_BK1_0 : w6_.cell? ⟨g1_, 0, none⟩ = some (.int .i64 a0) := (blk_cell BK1.out 0).trans rfl
  have hz_BK1_1 : w6_.cell? ⟨g1_, 1, none⟩ = some (.slice A1 l1.length c1) := (blk_cell BK1.out 1).trans rfl
  have hz_BK1_2 : w6_.cell? ⟨g1_, 2, none⟩ = some (.int .i64 a2) := (blk_cell BK1.out 2).trans rfl
  have hz_BK1_3 : w6_.cell? ⟨g1_, 3, none⟩ = some (.int .i64 a3) := (blk_cell BK1.out 3).trans rfl
  have hz_BK1_4 : w6_.cell? ⟨g1_, 4, none⟩ = some (.slice A4 l4.length c4) := (blk_cell BK1.out 4).trans rfl
  go_wp2_with (first | (go_at_call 17; refine hold_here ?_))
  refine hold_go ?_
  refine (toSig_calls _ a0 A1 c1 l1 a2 a3 A4 c4 l4 _ ?s1 ?s2 ?s3 ?s4 H_to.out).mono ?_
  case s1 => exact Kd.C_below HR1.out HB.out
  case s2 => exact HC1.out
  case s3 => exact Kd.C_below HR4.out HB.out
  case s4 => exact HC4.out
  rintro e w7_ ⟨A_X01, c_X01, A_X04, c_X04, rfl, hc_1, hc_4, ha, hb⟩
  replace BK1 := Aside0.mk (blk_below BK1.out hb)
  replace W1 := Aside0.mk (Kd.R_below W1.out hb)
  replace BK4 := Aside0.mk (blk_below BK4.out hb)
  replace HB := Aside0.mk (below_step HB.out hb)
  clear hz_BK1_0 hz_BK1_1 hz_BK1_2 hz_BK1_3 hz_BK1_4
  replace ZZ := Aside0.mk (And.intro ZZ.out (show w6_.heap.size ≤ w7_.heap.size from hb.size))
  have HC_X01 := Aside0.mk hc_1
  have HC_X04 := Aside0.mk hc_4
  have X0 := Aside0.mk (show SG w.heap.size w7_ w6_.heap.size w7_.heap.size A_X01 l1 A_X04 l4 from SG.lower ha (by have h_ := ZZ.out; omega))
  clear hc_1 hc_4 ha
  clear hb
  go_wp2_with (first | ((with_reducible refine gate_dst (N := 5) rfl ?_); refine hold_here ?_))
  refine hold_go ?_
  refine box_event (N := 5) (cs := #[.int .i64 0, .slice none 0 0, .int .i64 0, .int .i64 0, .slice none 0 0]) (t := 27) ?hgb rfl ?hrb ?_
  case hgb => rfl
  case hrb => first | (go_simp; done) | (go_simp; rfl)
  intro g5_ hg w8_ hbox hb
  replace BK1 := Aside0.mk (blk_below BK1.out hb)
  replace W1 := Aside0.mk (Kd.R_below W1.out hb)
  replace BK4 := Aside0.mk (blk_below BK4.out hb)
  replace X0 := Aside0.mk (SG.below X0.out hb)
  replace HB := Aside0.mk (below_step HB.out hb)
  replace ZZ := Aside0.mk (And.intro ZZ.out (show w7_.heap.size ≤ w8_.heap.size from hb.size))
  have BK5 := Aside0.mk hbox
  replace ZZ := Aside0.mk (And.intro ZZ.out (And.intro (show g5_ = w7_.heap.size from hg) (show g5_ < w8_.heap.size from blk_lt hbox)))
  clear hb hbox hg
  go_wp2_with (first | ((with_reducible refine gate_store (t := 27) (p := 5) (v := .tmp 20) rfl ?_); refine hold_here ?_))
  refine hold_go ?_
  refine row_store rfl 27 (.tmp 5) (.tmp 20) rfl g5_ #[.int .i64 a0, .slice A_X01 l1.length c_X01, .int .i64 a2, .int .i64 a3, .slice A_X04 l4.length c_X04] rfl ?hy 27 _ BK5.out ?hi ?ho ?h1 rfl HB.out (show w.heap.size ≤ g5_ from (by have h_ := ZZ.out; omega)) ?_
  case hy => rfl
  case hi => kernel_rfl
  case ho => rfl
  case h1 => first | rfl | (simp [Value.oneCell']; done) | (go_simp; done)
  intro w9_ bo hk hb2
  clear BK5
  replace BK1 := Aside0.mk (blk_keptIn BK1.out hk (by have h_ := ZZ.out; omega))
  replace W1 := Aside0.mk (B_kept W1.out hk (by have h_ := ZZ.out; omega))
  replace BK4 := Aside0.mk (blk_keptIn BK4.out hk (by have h_ := ZZ.out; omega))
  replace X0 := Aside0.mk (SG.kept X0.out hk (by have h_ := ZZ.out; omega))
  replace HB := Aside0.mk hb2
  replace ZZ := Aside0.mk (And.intro ZZ.out (show w8_.heap.size ≤ w9_.heap.size from hk.1))
  have BK5 := Aside0.mk bo
  clear bo hk hb2
  have hz_BK5_0 : w9_.cell? ⟨g5_, 0, none⟩ = some (.int .i64 a0) := (blk_cell BK5.out 0).trans rfl
  have hz_BK5_1 : w9_.cell? ⟨g5_, 1, none⟩ = some (.slice A_X01 l1.length c_X01) := (blk_cell BK5.out 1).trans rfl
  have hz_BK5_2 : w9_.cell? ⟨g5_, 2, none⟩ = some (.int .i64 a2) := (blk_cell BK5.out 2).trans rfl
  have hz_BK5_3 : w9_.cell? ⟨g5_, 3, none⟩ = some (.int .i64 a3) := (blk_cell BK5.out 3).trans rfl
  have hz_BK5_4 : w9_.cell? ⟨g5_, 4, none⟩ = some (.slice A_X04 l4.length c_X04) := (blk_cell BK5.out 4).trans rfl
  go_wp2_with (first | (go_at_call 18; refine hold_here ?_))
  refine hold_go ?_
  refine (H_impl.out A_X01 c_X01 A_X04 c_X04 _ ?s1 ?s2 ?s3 ?s4).mono ?_
  case s1 => exact Kd.F_now (AR.foot (SG.ar1 X0.out))
  case s2 => exact HC_X01.out
  case s3 => exact Kd.F_now (AR.foot (SG.ar2 X0.out))
  case s4 => exact HC_X04.out
  rintro e w10_ ⟨v1, rfl, ho1, hb⟩
  replace BK1 := Aside0.mk (blk_below BK1.out hb)
  replace W1 := Aside0.mk (Kd.R_below W1.out hb)
  replace BK4 := Aside0.mk (blk_below BK4.out hb)
  replace X0 := Aside0.mk (SG.below X0.out hb)
  replace BK5 := Aside0.mk (blk_below BK5.out hb)
  replace HB := Aside0.mk (below_step HB.out hb)
  clear hz_BK5_0 hz_BK5_1 hz_BK5_2 hz_BK5_3 hz_BK5_4
  replace ZZ := Aside0.mk (And.intro ZZ.out (show w9_.heap.size ≤ w10_.heap.size from hb.size))
  obtain ⟨A_G1, c_G1, ev_, hA_G1⟩ := B_of_R (base := w.heap.size) ho1 (show w.heap.size ≤ w9_.heap.size from (by have h_ := ZZ.out; omega))
  subst ev_
  have G1 := Aside0.mk (show Kd.R (Kd.int .u8) 5 w10_ w.heap.size (In w9_.heap.size w10_.heap.size) (.slice A_G1 rb1.length c_G1) rb1 from hA_G1)
  clear hA_G1 ho1
  clear hb
  go_wp2_with (first | ((with_reducible refine gate_dst (N := 6) rfl ?_); refine hold_here ?_))
  refine hold_go ?_
  refine box_event (N := 6) (cs := #[.int .i64 0, .slice none 0 0]) (t := 42) ?hgb rfl ?hrb ?_
  case hgb => rfl
  case hrb => first | (go_simp; done) | (go_simp; rfl)
  intro g6_ hg w11_ hbox hb
  replace BK1 := Aside0.mk (blk_below BK1.out hb)
  replace W1 := Aside0.mk (Kd.R_below W1.out hb)
  replace BK4 := Aside0.mk (blk_below BK4.out hb)
  replace X0 := Aside0.mk (SG.below X0.out hb)
  replace BK5 := Aside0.mk (blk_below BK5.out hb)
  replace G1 := Aside0.mk (Kd.R_below G1.out hb)
  replace HB := Aside0.mk (below_step HB.out hb)
  replace ZZ := Aside0.mk (And.intro ZZ.out (show w10_.heap.size ≤ w11_.heap.size from hb.size))
  have BK6 := Aside0.mk hbox
  replace ZZ := Aside0.mk (And.intro ZZ.out (And.intro (show g6_ = w10_.heap.size from hg) (show g6_ < w11_.heap.size from blk_lt hbox)))
  clear hb hbox hg
  go_wp2_with (first | ((with_reducible refine gate_store (t := 42) (p := 6) (v := .tmp 22) rfl ?_); refine hold_here ?_))
  refine hold_go ?_
  refine row_store rfl 42 (.tmp 6) (.tmp 22) rfl g6_ #[.int .i64 q0, .slice A_G1 rb1.length c_G1] rfl ?hy 42 _ BK6.out ?hi ?ho ?h1 rfl HB.out (show w.heap.size ≤ g6_ from (by have h_ := ZZ.out; omega)) ?_
  case hy => rfl
  case hi => kernel_rfl
  case ho => rfl
  case h1 => first | rfl | (simp [Value.oneCell']; done) | (go_simp; done)
  intro w12_ bo hk hb2
  clear BK6
  replace BK1 := Aside0.mk (blk_keptIn BK1.out hk (by have h_ := ZZ.out; omega))
  replace W1 := Aside0.mk (B_kept W1.out hk (by have h_ := ZZ.out; omega))
  replace BK4 := Aside0.mk (blk_keptIn BK4.out hk (by have h_ := ZZ.out; omega))
  replace X0 := Aside0.mk (SG.kept X0.out hk (by have h_ := ZZ.out; omega))
  replace BK5 := Aside0.mk (blk_keptIn BK5.out hk (by have h_ := ZZ.out; omega))
  replace G1 := Aside0.mk (B_kept G1.out hk (by have h_ := ZZ.out; omega))
  replace HB := Aside0.mk hb2
  replace ZZ := Aside0.mk (And.intro ZZ.out (show w11_.heap.size ≤ w12_.heap.size from hk.1))
  have BK6 := Aside0.mk bo
  clear bo hk hb2
  have hz_BK6_0 : w12_.cell? ⟨g6_, 0, none⟩ = some (.int .i64 q0) := (blk_cell BK6.out 0).trans rfl
  have hz_BK6_1 : w12_.cell? ⟨g6_, 1, none⟩ = some (.slice A_G1 rb1.length c_G1) := (blk_cell BK6.out 1).trans rfl
  have hz_BK4_0 : w12_.cell? ⟨g4_, 0, none⟩ = some (.int .i64 q0) := (blk_cell BK4.out 0).trans rfl
  have hz_BK4_1 : w12_.cell? ⟨g4_, 1, none⟩ = some (.slice A_W1 rb1.length c_W1) := (blk_cell BK4.out 1).trans rfl
  go_wp2_with (first | (go_at_call 19; refine hold_here ?_))
  refine hold_go ?_
  refine (laws_eqBytesResult.calls _ q0 A_G1 c_G1 rb1 q0 A_W1 c_W1 rb1 true _ ?s1 ?s2 ?s3 ?s4 H_eqr.out).mono ?_
  case s1 => exact (Kd.R_reads' G1.out).2.2
  case s2 => exact (Kd.R_reads' G1.out).2.1
  case s3 => exact (Kd.R_reads' W1.out).2.2
  case s4 => exact (Kd.R_reads' W1.out).2.1
  rintro e w13_ ⟨rfl, hb⟩
  replace BK1 := Aside0.mk (blk_below BK1.out hb)
  replace W1 := Aside0.mk (Kd.R_below W1.out hb)
  replace BK4 := Aside0.mk (blk_below BK4.out hb)
  replace X0 := Aside0.mk (SG.below X0.out hb)
  replace BK5 := Aside0.mk (blk_below BK5.out hb)
  replace G1 := Aside0.mk (Kd.R_below G1.out hb)
  replace BK6 := Aside0.mk (blk_below BK6.out hb)
  replace HB := Aside0.mk (below_step HB.out hb)
  clear hz_BK6_0 hz_BK6_1 hz_BK4_0 hz_BK4_1
  replace ZZ := Aside0.mk (And.intro ZZ.out (show w12_.heap.size ≤ w13_.heap.size from hb.size))
  clear hb
  try go_wp2_with fail
  replace BK1 := Aside0.mk (blk_drew BK1.out)
  replace W1 := Aside0.mk (Kd.R_drew W1.out)
  replace BK4 := Aside0.mk (blk_drew BK4.out)
  replace X0 := Aside0.mk (SG.drew X0.out)
  replace BK5 := Aside0.mk (blk_drew BK5.out)
  replace G1 := Aside0.mk (Kd.R_drew G1.out)
  replace BK6 := Aside0.mk (blk_drew BK6.out)
  replace HB := Aside0.mk (below_drew1 HB.out)
  replace ZZ := Aside0.mk (And.intro ZZ.out (show w13_.heap.size ≤ w13_.drew.heap.size from Nat.le_refl _))
  refine start_ (n := 5) (S := fun w' => w'.cell? (⟨g5_, 0, none⟩) = some (.int .i64 a0) ∧ w'.cell? (⟨g5_, 1, none⟩) = some (.slice A_X01 l1.length c_X01) ∧ w'.cell? (⟨g5_, 2, none⟩) = some (.int .i64 a2) ∧ w'.cell? (⟨g5_, 3, none⟩) = some (.int .i64 a3) ∧ w'.cell? (⟨g5_, 4, none⟩) = some (.slice A_X04 l4.length c_X04) ∧ w'.cell? (⟨g1_, 0, none⟩) = some (.int .i64 a0) ∧ w'.cell? (⟨g1_, 1, none⟩) = some (.slice A1 l1.length c1) ∧ w'.cell? (⟨g1_, 2, none⟩) = some (.int .i64 a2) ∧ w'.cell? (⟨g1_, 3, none⟩) = some (.int .i64 a3) ∧ w'.cell? (⟨g1_, 4, none⟩) = some (.slice A4 l4.length c4)) (ds := []) #[false, false, false, false, false] (by kernel_rfl) rfl rfl ⟨(blk_cell BK5.out 0).trans rfl, (blk_cell BK5.out 1).trans rfl, (blk_cell BK5.out 2).trans rfl, (blk_cell BK5.out 3).trans rfl, (blk_cell BK5.out 4).trans rfl, (blk_cell BK1.out 0).trans rfl, (blk_cell BK1.out 1).trans rfl, (blk_cell BK1.out 2).trans rfl, (blk_cell BK1.out 3).trans rfl, (blk_cell BK1.out 4).trans rfl⟩ (fun hHeld => ?_)
  generalize w13_.drew = w14_ at BK1 W1 BK4 X0 BK5 G1 BK6 HB ZZ hHeld ⊢
  refine take_ (i := 0) (N := some 27) (v := ?_) (a' := ?_) #[true, false, false, false, false] rfl rfl (by kernel_rfl) (fun _ _ _ h => h) (Or.inl ⟨by rfl, ?_⟩) hHeld ?_ ?_
  rotate_left
  · rintro w' ⟨s0, s1, s2, s3, s4, s5, s6, s7, s8, s9⟩
    go_simp
    with_reducible rfl
  rotate_left
  · simp only [Act.put, List.setIfInBounds_toArray, List.set_cons_zero, List.set_cons_succ, i64_w, i32_w]
    rfl
  refine take_ (i := 1) (N := some 28) (v := ?_) (a' := ?_) #[true, true, false, false, false] rfl rfl (by kernel_rfl) (fun _ _ _ h => h) (Or.inl ⟨by rfl, ?_⟩) hHeld ?_ ?_
  rotate_left
  · rintro w' ⟨s0, s1, s2, s3, s4, s5, s6, s7, s8, s9⟩
    go_simp
    with_reducible rfl
  rotate_left
  · simp only [Act.put, List.setIfInBounds_toArray, List.set_cons_zero, List.set_cons_succ, i64_w, i32_w]
    rfl
  refine one_ (i := 2) (N := some 29) #[true, true, true, false, false] rfl rfl (by kernel_rfl) (by decide) (fun K hK => ?_)
  refine goes_ Try.func17 (by kernel_rfl) rfl #[.agg #[.int .i64 a0, .slice A1 l1.length c1, .int .i64 a2, .int .i64 a3, .slice A4 l4.length c4]] (by rfl) rfl rfl (by (try simp only [List.map_toArray, List.map_cons, List.map_nil]); first | done | rfl) ?_
  refine (toSig_calls _ a0 A1 c1 l1 a2 a3 A4 c4 l4 _ ?s1 ?s2 ?s3 ?s4 H_to.out).mono ?_
  case s1 => exact Kd.C_below HR1.out HB.out
  case s2 => exact HC1.out
  case s3 => exact Kd.C_below HR4.out HB.out
  case s4 => exact HC4.out
  rintro e w15_ ⟨A_T11, c_T11, A_T14, c_T14, rfl, hc_1, hc_4, ha, hb⟩
  refine ⟨_, rfl, ?_⟩
  have hS_ : (fun w' : World => w'.cell? (⟨g5_, 0, none⟩) = some (.int .i64 a0) ∧ w'.cell? (⟨g5_, 1, none⟩) = some (.slice A_X01 l1.length c_X01) ∧ w'.cell? (⟨g5_, 2, none⟩) = some (.int .i64 a2) ∧ w'.cell? (⟨g5_, 3, none⟩) = some (.int .i64 a3) ∧ w'.cell? (⟨g5_, 4, none⟩) = some (.slice A_X04 l4.length c_X04) ∧ w'.cell? (⟨g1_, 0, none⟩) = some (.int .i64 a0) ∧ w'.cell? (⟨g1_, 1, none⟩) = some (.slice A1 l1.length c1) ∧ w'.cell? (⟨g1_, 2, none⟩) = some (.int .i64 a2) ∧ w'.cell? (⟨g1_, 3, none⟩) = some (.int .i64 a3) ∧ w'.cell? (⟨g1_, 4, none⟩) = some (.slice A4 l4.length c4)) w15_ := by
    obtain ⟨s0, s1, s2, s3, s4, s5, s6, s7, s8, s9⟩ := hHeld
    exact ⟨(hb.cell (World.block_lt_of_cell? _ _ s0)).trans s0, (hb.cell (World.block_lt_of_cell? _ _ s1)).trans s1, (hb.cell (World.block_lt_of_cell? _ _ s2)).trans s2, (hb.cell (World.block_lt_of_cell? _ _ s3)).trans s3, (hb.cell (World.block_lt_of_cell? _ _ s4)).trans s4, (hb.cell (World.block_lt_of_cell? _ _ s5)).trans s5, (hb.cell (World.block_lt_of_cell? _ _ s6)).trans s6, (hb.cell (World.block_lt_of_cell? _ _ s7)).trans s7, (hb.cell (World.block_lt_of_cell? _ _ s8)).trans s8, (hb.cell (World.block_lt_of_cell? _ _ s9)).trans s9⟩
  replace BK1 := Aside0.mk (blk_below BK1.out hb)
  replace W1 := Aside0.mk (Kd.R_below W1.out hb)
  replace BK4 := Aside0.mk (blk_below BK4.out hb)
  replace X0 := Aside0.mk (SG.below X0.out hb)
  replace BK5 := Aside0.mk (blk_below BK5.out hb)
  replace G1 := Aside0.mk (Kd.R_below G1.out hb)
  replace BK6 := Aside0.mk (blk_below BK6.out hb)
  replace HB := Aside0.mk (below_step HB.out hb)
  replace ZZ := Aside0.mk (And.intro ZZ.out (show w14_.heap.size ≤ w15_.heap.size from hb.size))
  have HC_T11 := Aside0.mk hc_1
  have HC_T14 := Aside0.mk hc_4
  have T1 := Aside0.mk (show SG w.heap.size w15_ w14_.heap.size w15_.heap.size A_T11 l1 A_T14 l4 from SG.lower ha (by have h_ := ZZ.out; omega))
  clear hc_1 hc_4 ha
  refine hK.out _ _ hS_ (fun hHeld2 => ?_)
  clear hK K hHeld hS_ hb
  have hHeld := hHeld2
  clear hHeld2
  refine norm_ (a' := ?_) ?_ ?_
  rotate_left
  · show Act.put _ (some 29) _ = _
    simp only [Act.put, List.setIfInBounds_toArray, List.set_cons_zero, List.set_cons_succ, i64_w, i32_w]
    rfl
  refine one_ (i := 3) (N := some 30) #[true, true, true, true, false] rfl rfl (by kernel_rfl) (by decide) (fun K hK => ?_)
  refine goes_ Try.func20 (by kernel_rfl) rfl #[.agg #[.int .i64 a0, .slice A_X01 l1.length c_X01, .int .i64 a2, .int .i64 a3, .slice A_X04 l4.length c_X04], .agg #[.int .i64 a0, .slice A_T11 l1.length c_T11, .int .i64 a2, .int .i64 a3, .slice A_T14 l4.length c_T14]] (by rfl) rfl rfl (by (try simp only [List.map_toArray, List.map_cons, List.map_nil]); first | done | rfl) ?_
  refine (laws_eqSignature.calls _ a0 A_X01 c_X01 l1 a2 a3 A_X04 c_X04 l4 a0 A_T11 c_T11 l1 a2 a3 A_T14 c_T14 l4 true _ ?s1 ?s2 ?s3 ?s4 ?s5 ?s6 ?s7 ?s8 H_eqp.out).mono ?_
  case s1 => exact Kd.F_now (AR.foot (SG.ar1 X0.out))
  case s2 => exact HC_X01.out
  case s3 => exact Kd.F_now (AR.foot (SG.ar2 X0.out))
  case s4 => exact HC_X04.out
  case s5 => exact Kd.F_now (AR.foot (SG.ar1 T1.out))
  case s6 => exact HC_T11.out
  case s7 => exact Kd.F_now (AR.foot (SG.ar2 T1.out))
  case s8 => exact HC_T14.out
  rintro e w16_ ⟨rfl, hb⟩
  refine ⟨_, rfl, ?_⟩
  have hS_ : (fun w' : World => w'.cell? (⟨g5_, 0, none⟩) = some (.int .i64 a0) ∧ w'.cell? (⟨g5_, 1, none⟩) = some (.slice A_X01 l1.length c_X01) ∧ w'.cell? (⟨g5_, 2, none⟩) = some (.int .i64 a2) ∧ w'.cell? (⟨g5_, 3, none⟩) = some (.int .i64 a3) ∧ w'.cell? (⟨g5_, 4, none⟩) = some (.slice A_X04 l4.length c_X04) ∧ w'.cell? (⟨g1_, 0, none⟩) = some (.int .i64 a0) ∧ w'.cell? (⟨g1_, 1, none⟩) = some (.slice A1 l1.length c1) ∧ w'.cell? (⟨g1_, 2, none⟩) = some (.int .i64 a2) ∧ w'.cell? (⟨g1_, 3, none⟩) = some (.int .i64 a3) ∧ w'.cell? (⟨g1_, 4, none⟩) = some (.slice A4 l4.length c4)) w16_ := by
    obtain ⟨s0, s1, s2, s3, s4, s5, s6, s7, s8, s9⟩ := hHeld
    exact ⟨(hb.cell (World.block_lt_of_cell? _ _ s0)).trans s0, (hb.cell (World.block_lt_of_cell? _ _ s1)).trans s1, (hb.cell (World.block_lt_of_cell? _ _ s2)).trans s2, (hb.cell (World.block_lt_of_cell? _ _ s3)).trans s3, (hb.cell (World.block_lt_of_cell? _ _ s4)).trans s4, (hb.cell (World.block_lt_of_cell? _ _ s5)).trans s5, (hb.cell (World.block_lt_of_cell? _ _ s6)).trans s6, (hb.cell (World.block_lt_of_cell? _ _ s7)).trans s7, (hb.cell (World.block_lt_of_cell? _ _ s8)).trans s8, (hb.cell (World.block_lt_of_cell? _ _ s9)).trans s9⟩
  replace BK1 := Aside0.mk (blk_below BK1.out hb)
  replace W1 := Aside0.mk (Kd.R_below W1.out hb)
  replace BK4 := Aside0.mk (blk_below BK4.out hb)
  replace X0 := Aside0.mk (SG.below X0.out hb)
  replace BK5 := Aside0.mk (blk_below BK5.out hb)
  replace G1 := Aside0.mk (Kd.R_below G1.out hb)
  replace BK6 := Aside0.mk (blk_below BK6.out hb)
  replace T1 := Aside0.mk (SG.below T1.out hb)
  replace HB := Aside0.mk (below_step HB.out hb)
  replace ZZ := Aside0.mk (And.intro ZZ.out (show w15_.heap.size ≤ w16_.heap.size from hb.size))
  refine hK.out _ _ hS_ (fun hHeld2 => ?_)
  clear hK K hHeld hS_ hb
  have hHeld := hHeld2
  clear hHeld2
  refine norm_ (a' := ?_) ?_ ?_
  rotate_left
  · show Act.put _ (some 30) _ = _
    simp only [Act.put, List.setIfInBounds_toArray, List.set_cons_zero, List.set_cons_succ, i64_w, i32_w]
    rfl
  refine pure_ (i := 4) (N := some 31) (v := ?_) (a' := ?_) #[true, true, true, true, true] rfl rfl (by kernel_rfl) (fun _ _ _ h => h) (Or.inl ⟨by rfl, ?_⟩) ?_ ?_
  rotate_left
  · intro w'
    go_simp
    with_reducible rfl
  rotate_left
  · simp only [Act.put, List.setIfInBounds_toArray, List.set_cons_zero, List.set_cons_succ, i64_w, i32_w]
    rfl
  refine done_ (by kernel_rfl) ?_
  try clear hHeld
  clear T1
  have hz_BK5_0 : w16_.cell? ⟨g5_, 0, none⟩ = some (.int .i64 a0) := (blk_cell BK5.out 0).trans rfl
  have hz_BK5_1 : w16_.cell? ⟨g5_, 1, none⟩ = some (.slice A_X01 l1.length c_X01) := (blk_cell BK5.out 1).trans rfl
  have hz_BK5_2 : w16_.cell? ⟨g5_, 2, none⟩ = some (.int .i64 a2) := (blk_cell BK5.out 2).trans rfl
  have hz_BK5_3 : w16_.cell? ⟨g5_, 3, none⟩ = some (.int .i64 a3) := (blk_cell BK5.out 3).trans rfl
  have hz_BK5_4 : w16_.cell? ⟨g5_, 4, none⟩ = some (.slice A_X04 l4.length c_X04) := (blk_cell BK5.out 4).trans rfl
  go_wp2_with (first | (go_at_call 21; refine hold_here ?_))
  refine hold_go ?_
  refine (markSignature_calls a0 a2 a3 l1 l4 1 (by decide) n1 H_n1.out n2 H_n2.out H_pr.out w _ w6_.heap.size w7_.heap.size A_X01 c_X01 A_X04 c_X04 ?s1 ?s2 ?s3 ?s4 H_u1.out H_u4.out (by have h_ := ZZ.out; omega)).mono ?_
  case s1 => exact HB.out
  case s2 => exact X0.out
  case s3 => exact HC_X01.out
  case s4 => exact HC_X04.out
  rintro e w17_ ⟨rfl, ha, hb2, hk⟩
  clear X0
  replace BK1 := Aside0.mk (blk_keptIn BK1.out hk (by have h_ := ZZ.out; omega))
  replace W1 := Aside0.mk (B_kept W1.out hk (by have h_ := ZZ.out; omega))
  replace BK4 := Aside0.mk (blk_keptIn BK4.out hk (by have h_ := ZZ.out; omega))
  replace BK5 := Aside0.mk (blk_keptIn BK5.out hk (by have h_ := ZZ.out; omega))
  replace G1 := Aside0.mk (B_kept G1.out hk (by have h_ := ZZ.out; omega))
  replace BK6 := Aside0.mk (blk_keptIn BK6.out hk (by have h_ := ZZ.out; omega))
  replace HB := Aside0.mk hb2
  clear hz_BK5_0 hz_BK5_1 hz_BK5_2 hz_BK5_3 hz_BK5_4
  replace ZZ := Aside0.mk (And.intro ZZ.out (show w16_.heap.size ≤ w17_.heap.size from hk.1))
  clear ha
  clear hk hb2
  have hz_BK6_0 : w17_.cell? ⟨g6_, 0, none⟩ = some (.int .i64 q0) := (blk_cell BK6.out 0).trans rfl
  have hz_BK6_1 : w17_.cell? ⟨g6_, 1, none⟩ = some (.slice A_G1 rb1.length c_G1) := (blk_cell BK6.out 1).trans rfl
  have hz_BK4_0 : w17_.cell? ⟨g4_, 0, none⟩ = some (.int .i64 q0) := (blk_cell BK4.out 0).trans rfl
  have hz_BK4_1 : w17_.cell? ⟨g4_, 1, none⟩ = some (.slice A_W1 rb1.length c_W1) := (blk_cell BK4.out 1).trans rfl
  go_wp2_with (first | (go_at_call 19; refine hold_here ?_))
  refine hold_go ?_
  refine (laws_eqBytesResult.calls _ q0 A_G1 c_G1 rb1 q0 A_W1 c_W1 rb1 true _ ?s1 ?s2 ?s3 ?s4 H_eqr.out).mono ?_
  case s1 => exact (Kd.R_reads' G1.out).2.2
  case s2 => exact (Kd.R_reads' G1.out).2.1
  case s3 => exact (Kd.R_reads' W1.out).2.2
  case s4 => exact (Kd.R_reads' W1.out).2.1
  rintro e w18_ ⟨rfl, hb⟩
  replace BK1 := Aside0.mk (blk_below BK1.out hb)
  replace W1 := Aside0.mk (Kd.R_below W1.out hb)
  replace BK4 := Aside0.mk (blk_below BK4.out hb)
  replace BK5 := Aside0.mk (blk_below BK5.out hb)
  replace G1 := Aside0.mk (Kd.R_below G1.out hb)
  replace BK6 := Aside0.mk (blk_below BK6.out hb)
  replace HB := Aside0.mk (below_step HB.out hb)
  clear hz_BK6_0 hz_BK6_1 hz_BK4_0 hz_BK4_1
  replace ZZ := Aside0.mk (And.intro ZZ.out (show w17_.heap.size ≤ w18_.heap.size from hb.size))
  clear hb
  have XO := Aside0.mk G1.out
  have hz_BK6_0 : w18_.cell? ⟨g6_, 0, none⟩ = some (.int .i64 q0) := (blk_cell BK6.out 0).trans rfl
  have hz_BK6_1 : w18_.cell? ⟨g6_, 1, none⟩ = some (.slice A_G1 rb1.length c_G1) := (blk_cell BK6.out 1).trans rfl
  go_wp2_with (first | (go_at_call 22; refine hold_here ?_))
  refine hold_go ?_
  refine (laws_markBytesResult.calls _ q0 (In w9_.heap.size w10_.heap.size) (.slice A_G1 rb1.length c_G1) rb1 1 _ _ w _ ?s1 ?s2 H_mr.out).mono ?_
  case s1 => exact HB.out
  case s2 => exact G1.out
  rintro e w19_ ⟨rfl, hR, hb2, hk⟩
  clear G1
  replace BK1 := Aside0.mk (blk_keptIn BK1.out hk (by have h_ := ZZ.out; omega))
  replace W1 := Aside0.mk (B_kept W1.out hk (by have h_ := ZZ.out; omega))
  replace BK4 := Aside0.mk (blk_keptIn BK4.out hk (by have h_ := ZZ.out; omega))
  replace BK5 := Aside0.mk (blk_keptIn BK5.out hk (by have h_ := ZZ.out; omega))
  replace BK6 := Aside0.mk (blk_keptIn BK6.out hk (by have h_ := ZZ.out; omega))
  replace HB := Aside0.mk hb2
  clear hz_BK6_0 hz_BK6_1
  replace ZZ := Aside0.mk (And.intro ZZ.out (show w18_.heap.size ≤ w19_.heap.size from hk.1))
  have G1 := Aside0.mk (B_tight XO.out hR)
  clear hR XO
  clear hk hb2
  have hz_BK6_0 : w19_.cell? ⟨g6_, 0, none⟩ = some (.int .i64 q0) := (blk_cell BK6.out 0).trans rfl
  have hz_BK6_1 : w19_.cell? ⟨g6_, 1, none⟩ = some (.slice A_G1 rb1.length c_G1) := (blk_cell BK6.out 1).trans rfl
  go_wp2_with (first | (go_at_call 23; refine hold_here ?_))
  refine hold_go ?_
  refine (heldBytesResult_len _ q0 A_G1 c_G1 mr rb1.length H_lr.out 1 _ _ ?s1 ?s2 H_hr.out).mono ?_
  case s1 => exact (Kd.R_reads' G1.out).2.2
  case s2 => exact (Kd.R_reads' G1.out).2.1
  rintro e w20_ ⟨rfl, hb⟩
  replace BK1 := Aside0.mk (blk_below BK1.out hb)
  replace W1 := Aside0.mk (Kd.R_below W1.out hb)
  replace BK4 := Aside0.mk (blk_below BK4.out hb)
  replace BK5 := Aside0.mk (blk_below BK5.out hb)
  replace BK6 := Aside0.mk (blk_below BK6.out hb)
  replace G1 := Aside0.mk (Kd.R_below G1.out hb)
  replace HB := Aside0.mk (below_step HB.out hb)
  clear hz_BK6_0 hz_BK6_1
  replace ZZ := Aside0.mk (And.intro ZZ.out (show w19_.heap.size ≤ w20_.heap.size from hb.size))
  clear hb
  have hz_BK1_0 : w20_.cell? ⟨g1_, 0, none⟩ = some (.int .i64 a0) := (blk_cell BK1.out 0).trans rfl
  have hz_BK1_1 : w20_.cell? ⟨g1_, 1, none⟩ = some (.slice A1 l1.length c1) := (blk_cell BK1.out 1).trans rfl
  have hz_BK1_2 : w20_.cell? ⟨g1_, 2, none⟩ = some (.int .i64 a2) := (blk_cell BK1.out 2).trans rfl
  have hz_BK1_3 : w20_.cell? ⟨g1_, 3, none⟩ = some (.int .i64 a3) := (blk_cell BK1.out 3).trans rfl
  have hz_BK1_4 : w20_.cell? ⟨g1_, 4, none⟩ = some (.slice A4 l4.length c4) := (blk_cell BK1.out 4).trans rfl
  go_wp2_with (first | (go_at_call 17; refine hold_here ?_))
  refine hold_go ?_
  refine (toSig_calls _ a0 A1 c1 l1 a2 a3 A4 c4 l4 _ ?s1 ?s2 ?s3 ?s4 H_to.out).mono ?_
  case s1 => exact Kd.C_below HR1.out HB.out
  case s2 => exact HC1.out
  case s3 => exact Kd.C_below HR4.out HB.out
  case s4 => exact HC4.out
  rintro e w21_ ⟨A_T21, c_T21, A_T24, c_T24, rfl, hc_1, hc_4, ha, hb⟩
  replace BK1 := Aside0.mk (blk_below BK1.out hb)
  replace W1 := Aside0.mk (Kd.R_below W1.out hb)
  replace BK4 := Aside0.mk (blk_below BK4.out hb)
  replace BK5 := Aside0.mk (blk_below BK5.out hb)
  replace BK6 := Aside0.mk (blk_below BK6.out hb)
  replace G1 := Aside0.mk (Kd.R_below G1.out hb)
  replace HB := Aside0.mk (below_step HB.out hb)
  clear hz_BK1_0 hz_BK1_1 hz_BK1_2 hz_BK1_3 hz_BK1_4
  replace ZZ := Aside0.mk (And.intro ZZ.out (show w20_.heap.size ≤ w21_.heap.size from hb.size))
  have HC_T21 := Aside0.mk hc_1
  have HC_T24 := Aside0.mk hc_4
  have T2 := Aside0.mk (show SG w.heap.size w21_ w20_.heap.size w21_.heap.size A_T21 l1 A_T24 l4 from SG.lower ha (by have h_ := ZZ.out; omega))
  clear hc_1 hc_4 ha
  clear hb
  go_wp2_with (first | (go_at_call 18; refine hold_here ?_))
  refine hold_go ?_
  refine (H_impl.out A_T21 c_T21 A_T24 c_T24 _ ?s1 ?s2 ?s3 ?s4).mono ?_
  case s1 => exact Kd.F_now (AR.foot (SG.ar1 T2.out))
  case s2 => exact HC_T21.out
  case s3 => exact Kd.F_now (AR.foot (SG.ar2 T2.out))
  case s4 => exact HC_T24.out
  rintro e w22_ ⟨v1, rfl, ho1, hb⟩
  replace BK1 := Aside0.mk (blk_below BK1.out hb)
  replace W1 := Aside0.mk (Kd.R_below W1.out hb)
  replace BK4 := Aside0.mk (blk_below BK4.out hb)
  replace BK5 := Aside0.mk (blk_below BK5.out hb)
  replace BK6 := Aside0.mk (blk_below BK6.out hb)
  replace G1 := Aside0.mk (Kd.R_below G1.out hb)
  replace T2 := Aside0.mk (SG.below T2.out hb)
  replace HB := Aside0.mk (below_step HB.out hb)
  replace ZZ := Aside0.mk (And.intro ZZ.out (show w21_.heap.size ≤ w22_.heap.size from hb.size))
  obtain ⟨A_H1, c_H1, ev_, hA_H1⟩ := B_of_R (base := w.heap.size) ho1 (show w.heap.size ≤ w21_.heap.size from (by have h_ := ZZ.out; omega))
  subst ev_
  have H1 := Aside0.mk (show Kd.R (Kd.int .u8) 5 w22_ w.heap.size (In w21_.heap.size w22_.heap.size) (.slice A_H1 rb1.length c_H1) rb1 from hA_H1)
  clear hA_H1 ho1
  clear hb
  go_wp2_with (first | ((with_reducible refine gate_dst (N := 10) rfl ?_); refine hold_here ?_))
  refine hold_go ?_
  refine box_event (N := 10) (cs := #[.int .i64 0, .slice none 0 0]) (t := 42) ?hgb rfl ?hrb ?_
  case hgb => rfl
  case hrb => first | (go_simp; done) | (go_simp; rfl)
  intro g10_ hg w23_ hbox hb
  replace BK1 := Aside0.mk (blk_below BK1.out hb)
  replace W1 := Aside0.mk (Kd.R_below W1.out hb)
  replace BK4 := Aside0.mk (blk_below BK4.out hb)
  replace BK5 := Aside0.mk (blk_below BK5.out hb)
  replace BK6 := Aside0.mk (blk_below BK6.out hb)
  replace G1 := Aside0.mk (Kd.R_below G1.out hb)
  replace T2 := Aside0.mk (SG.below T2.out hb)
  replace H1 := Aside0.mk (Kd.R_below H1.out hb)
  replace HB := Aside0.mk (below_step HB.out hb)
  replace ZZ := Aside0.mk (And.intro ZZ.out (show w22_.heap.size ≤ w23_.heap.size from hb.size))
  have BK10 := Aside0.mk hbox
  replace ZZ := Aside0.mk (And.intro ZZ.out (And.intro (show g10_ = w22_.heap.size from hg) (show g10_ < w23_.heap.size from blk_lt hbox)))
  clear hb hbox hg
  go_wp2_with (first | ((with_reducible refine gate_store (t := 42) (p := 10) (v := .tmp 56) rfl ?_); refine hold_here ?_))
  refine hold_go ?_
  refine row_store rfl 42 (.tmp 10) (.tmp 56) rfl g10_ #[.int .i64 q0, .slice A_H1 rb1.length c_H1] rfl ?hy 42 _ BK10.out ?hi ?ho ?h1 rfl HB.out (show w.heap.size ≤ g10_ from (by have h_ := ZZ.out; omega)) ?_
  case hy => rfl
  case hi => kernel_rfl
  case ho => rfl
  case h1 => first | rfl | (simp [Value.oneCell']; done) | (go_simp; done)
  intro w24_ bo hk hb2
  clear BK10
  replace BK1 := Aside0.mk (blk_keptIn BK1.out hk (by have h_ := ZZ.out; omega))
  replace W1 := Aside0.mk (B_kept W1.out hk (by have h_ := ZZ.out; omega))
  replace BK4 := Aside0.mk (blk_keptIn BK4.out hk (by have h_ := ZZ.out; omega))
  replace BK5 := Aside0.mk (blk_keptIn BK5.out hk (by have h_ := ZZ.out; omega))
  replace BK6 := Aside0.mk (blk_keptIn BK6.out hk (by have h_ := ZZ.out; omega))
  replace G1 := Aside0.mk (B_kept G1.out hk (by have h_ := ZZ.out; omega))
  replace T2 := Aside0.mk (SG.kept T2.out hk (by have h_ := ZZ.out; omega))
  replace H1 := Aside0.mk (B_kept H1.out hk (by have h_ := ZZ.out; omega))
  replace HB := Aside0.mk hb2
  replace ZZ := Aside0.mk (And.intro ZZ.out (show w23_.heap.size ≤ w24_.heap.size from hk.1))
  have BK10 := Aside0.mk bo
  clear bo hk hb2
  have hz_BK10_0 : w24_.cell? ⟨g10_, 0, none⟩ = some (.int .i64 q0) := (blk_cell BK10.out 0).trans rfl
  have hz_BK10_1 : w24_.cell? ⟨g10_, 1, none⟩ = some (.slice A_H1 rb1.length c_H1) := (blk_cell BK10.out 1).trans rfl
  have hz_BK4_0 : w24_.cell? ⟨g4_, 0, none⟩ = some (.int .i64 q0) := (blk_cell BK4.out 0).trans rfl
  have hz_BK4_1 : w24_.cell? ⟨g4_, 1, none⟩ = some (.slice A_W1 rb1.length c_W1) := (blk_cell BK4.out 1).trans rfl
  go_wp2_with (first | (go_at_call 19; refine hold_here ?_))
  refine hold_go ?_
  refine (laws_eqBytesResult.calls _ q0 A_H1 c_H1 rb1 q0 A_W1 c_W1 rb1 true _ ?s1 ?s2 ?s3 ?s4 H_eqr.out).mono ?_
  case s1 => exact (Kd.R_reads' H1.out).2.2
  case s2 => exact (Kd.R_reads' H1.out).2.1
  case s3 => exact (Kd.R_reads' W1.out).2.2
  case s4 => exact (Kd.R_reads' W1.out).2.1
  rintro e w25_ ⟨rfl, hb⟩
  replace BK1 := Aside0.mk (blk_below BK1.out hb)
  replace W1 := Aside0.mk (Kd.R_below W1.out hb)
  replace BK4 := Aside0.mk (blk_below BK4.out hb)
  replace BK5 := Aside0.mk (blk_below BK5.out hb)
  replace BK6 := Aside0.mk (blk_below BK6.out hb)
  replace G1 := Aside0.mk (Kd.R_below G1.out hb)
  replace T2 := Aside0.mk (SG.below T2.out hb)
  replace H1 := Aside0.mk (Kd.R_below H1.out hb)
  replace BK10 := Aside0.mk (blk_below BK10.out hb)
  replace HB := Aside0.mk (below_step HB.out hb)
  clear hz_BK10_0 hz_BK10_1 hz_BK4_0 hz_BK4_1
  replace ZZ := Aside0.mk (And.intro ZZ.out (show w24_.heap.size ≤ w25_.heap.size from hb.size))
  clear hb
  have hz_BK6_0 : w25_.cell? ⟨g6_, 0, none⟩ = some (.int .i64 q0) := (blk_cell BK6.out 0).trans rfl
  have hz_BK6_1 : w25_.cell? ⟨g6_, 1, none⟩ = some (.slice A_G1 rb1.length c_G1) := (blk_cell BK6.out 1).trans rfl
  go_wp2_with (first | (go_at_call 23; refine hold_here ?_))
  refine hold_go ?_
  refine (heldBytesResult_len _ q0 A_G1 c_G1 mr rb1.length H_lr.out 1 _ _ ?s1 ?s2 H_hr.out).mono ?_
  case s1 => exact (Kd.R_reads' G1.out).2.2
  case s2 => exact (Kd.R_reads' G1.out).2.1
  rintro e w26_ ⟨rfl, hb⟩
  replace BK1 := Aside0.mk (blk_below BK1.out hb)
  replace W1 := Aside0.mk (Kd.R_below W1.out hb)
  replace BK4 := Aside0.mk (blk_below BK4.out hb)
  replace BK5 := Aside0.mk (blk_below BK5.out hb)
  replace BK6 := Aside0.mk (blk_below BK6.out hb)
  replace G1 := Aside0.mk (Kd.R_below G1.out hb)
  replace T2 := Aside0.mk (SG.below T2.out hb)
  replace H1 := Aside0.mk (Kd.R_below H1.out hb)
  replace BK10 := Aside0.mk (blk_below BK10.out hb)
  replace HB := Aside0.mk (below_step HB.out hb)
  clear hz_BK6_0 hz_BK6_1
  replace ZZ := Aside0.mk (And.intro ZZ.out (show w25_.heap.size ≤ w26_.heap.size from hb.size))
  clear hb
  go_wp2
  go_ret
  exact ⟨rfl, HB.out⟩
theorem law_PackSign_big (a0 : Int) (A1 : Option Addr) (c1 : Nat) (l1 : List (List Int)) (a2 a3 : Int) (A4 : Option Addr) (c4 : Nat) (l4 : List (List Int)) (w : World) (hr1 : Kd.C (Kd.slice 5 (Kd.int .u8)) w A1 l1.length l1) (hc1 : l1.length ≤ c1) (hr4 : Kd.C (Kd.slice 5 (Kd.int .u8)) w A4 l4.length l4) (hc4 : l4.length ≤ c4) (ksz : Nat) (sz : Int) (h_sz : laws_szSignature.f ksz a0 l1 a2 a3 l4 1048576 = some sz) (h_szc : sz < 0) :
    Calls Try.prog 4 #[.agg #[.int .i64 a0, .slice A1 l1.length c1, .int .i64 a2, .int .i64 a3, .slice A4 l4.length c4]] w fun e w' => e = .returned (.bool true) ∧ Below w.heap.size w w' := by
  have hu0_ := Try.underlying39
  have hu1_ := Try.underlying27
  have hu2_ := Try.underlying42
  have hu3_ := Try.underlying37
  have hu4_ := Try.underlying25
  have HR1 := Aside0.mk hr1
  have HC1 := Aside0.mk hc1
  have HR4 := Aside0.mk hr4
  have HC4 := Aside0.mk hc4
  have HB := Aside0.mk (Below.refl w.heap.size w)
  have ZZ := Aside0.mk (Nat.le_refl w.heap.size)
  have csz_ : decide (sz < 0) = true := decide_eq_true h_szc
  clear hr1 hc1 hr4 hc4
  go_enter Try.func4, Try.ntmps4
  go_wp2_with (first | ((with_reducible refine gate_dst (N := 1) rfl ?_); refine hold_here ?_))
  refine hold_go ?_
  refine box_event (N := 1) (cs := #[.int .i64 a0, .slice A1 l1.length c1, .int .i64 a2, .int .i64 a3, .slice A4 l4.length c4]) (t := 39) ?hgb rfl ?hrb ?_
  case hgb => rfl
  case hrb => first | (go_simp; done) | (go_simp; rfl)
  intro g1_ hg w1_ hbox hb
  replace HB := Aside0.mk (below_step HB.out hb)
  replace ZZ := Aside0.mk (And.intro ZZ.out (show w.heap.size ≤ w1_.heap.size from hb.size))
  have BK1 := Aside0.mk hbox
  replace ZZ := Aside0.mk (And.intro ZZ.out (And.intro (show g1_ = w.heap.size from hg) (show g1_ < w1_.heap.size from blk_lt hbox)))
  clear hb hbox hg
  have hz_BK1_0 : w1_.cell? ⟨g1_, 0, none⟩ = some (.int .i64 a0) := (blk_cell BK1.out 0).trans rfl
  have hz_BK1_1 : w1_.cell? ⟨g1_, 1, none⟩ = some (.slice A1 l1.length c1) := (blk_cell BK1.out 1).trans rfl
  have hz_BK1_2 : w1_.cell? ⟨g1_, 2, none⟩ = some (.int .i64 a2) := (blk_cell BK1.out 2).trans rfl
  have hz_BK1_3 : w1_.cell? ⟨g1_, 3, none⟩ = some (.int .i64 a3) := (blk_cell BK1.out 3).trans rfl
  have hz_BK1_4 : w1_.cell? ⟨g1_, 4, none⟩ = some (.slice A4 l4.length c4) := (blk_cell BK1.out 4).trans rfl
  go_wp2_with (first | (go_at_call 15; refine hold_here ?_))
  refine hold_go ?_
  refine (laws_szSignature.calls _ a0 A1 c1 l1 a2 a3 A4 c4 l4 1048576 sz _ ?s1 ?s2 ?s3 ?s4 h_sz).mono ?_
  case s1 => exact Kd.C_below HR1.out HB.out
  case s2 => exact HC1.out
  case s3 => exact Kd.C_below HR4.out HB.out
  case s4 => exact HC4.out
  rintro e w2_ ⟨rfl, hb⟩
  replace BK1 := Aside0.mk (blk_below BK1.out hb)
  replace HB := Aside0.mk (below_step HB.out hb)
  clear hz_BK1_0 hz_BK1_1 hz_BK1_2 hz_BK1_3 hz_BK1_4
  replace ZZ := Aside0.mk (And.intro ZZ.out (show w1_.heap.size ≤ w2_.heap.size from hb.size))
  clear hb
  go_wp2
  go_ret
  exact ⟨rfl, HB.out⟩

end Go.Proofs.Ytchmaojmknfbpaa.S

/- DIRECT: the law FnExactPackSign returns true at every argument: the program's PackSign and the reference's answer alike, in new memory. No condition. -/
set_option linter.unusedVariables false
namespace Go.Proofs.Ytchmaojmknfbpaa.S
open Go.RowKit Go.Proofs.YtchmaojmknfbpaaW.PrintWords Go.Proofs.YtchmaojmknfbpaaW.PrintLast Go.Proofs.YtchmaojmknfbpaaW.PrintMore Go.Proofs.Ytchmaojmknfbpaa.Base
theorem packL_flat : ∀ ws : List (List Int), (packL ws).length = ws.length + ws.flatten.length
  | [] => rfl
  | w :: ws => by rw [packL_cons_length, packL_flat ws, List.length_cons, List.flatten_cons, List.length_append]; omega
theorem szSignature_ex (a b c : Int) (ps ls : List (List Int)) (hp : ps.length ≤ 9223372036854775807) (hpi : ∀ l ∈ ps, l.length ≤ 9223372036854775807) (hl : ls.length ≤ 9223372036854775807) (hi : ∀ l ∈ ls, l.length ≤ 9223372036854775807) : ∃ r, Ev (fun k => laws_szSignature.f k a ps b c ls 1048576) r ∧ (¬ r < 0 → ps.length + ps.flatten.length + (ls.length + ls.flatten.length) ≤ 1048576) := by
  obtain ⟨r, hr, hrm, hz⟩ := szByteSS_ex ps hp hpi 1048576 (by omega) (by omega)
  unfold laws_szSignature.f
  by_cases g : r < 0
  · exact ⟨-1, ev_bind hr (ev_pos g (ev_now rfl)), fun g => absurd (by omega) g⟩
  · obtain ⟨r2, hr2, hrm2, hz2⟩ := szByteSS_ex ls hl hi r (by omega) (by omega)
    have hz := hz g
    by_cases g2 : r2 < 0
    · refine ⟨-1, ev_bind hr (ev_neg g (ev_bind (a := (-1 : Int)) ?_ (ev_pos (by omega) (ev_now rfl)))), fun g => absurd (by omega) g⟩
      unfold laws_szProof.f
      exact ev_bind hr2 (ev_pos g2 (ev_now rfl))
    · refine ⟨r2, ev_bind hr (ev_neg g (ev_bind (a := r2) ?_ (ev_neg g2 (ev_now rfl)))), fun g3 => by have := hz2 g2; omega⟩
      unfold laws_szProof.f
      exact ev_bind hr2 (ev_neg g2 (ev_now rfl))
end Go.Proofs.Ytchmaojmknfbpaa.S
namespace Go.Proofs.Ytchmaojmknfbpaa.Pure
open Go Go.RowKit Go.Proofs.Ytchmaojmknfbpaa.S Go.Proofs.YtchmaojmknfbpaaW.PrintWords Go.Proofs.YtchmaojmknfbpaaW.PrintLast Go.Proofs.YtchmaojmknfbpaaW.PrintMore Go.Proofs.Ytchmaojmknfbpaa.Base

theorem FnExactPackSign (y0 : S39) (hw : (((Lit.int .i64 y0.f0).wf = true) ∧ (y0.f1.length ≤ 9223372036854775807 ∧ ∀ y3 ∈ y0.f1, y3.length ≤ 9223372036854775807 ∧ ∀ y2 ∈ y3, (Lit.int .u8 y2).wf = true) ∧ (((Lit.int .i64 y0.f2.f0).wf = true) ∧ ((Lit.int .i64 y0.f2.f1).wf = true) ∧ (y0.f2.f2.length ≤ 9223372036854775807 ∧ ∀ y4 ∈ y0.f2.f2, y4.length ≤ 9223372036854775807 ∧ ∀ y2 ∈ y4, (Lit.int .u8 y2).wf = true)))) (A0_1 : Option Addr) (c0_1 : Nat) (A0_4 : Option Addr) (c0_4 : Nat) (w : World) (hr0_1 : Kd.C (Kd.slice 5 (Kd.int .u8)) w A0_1 y0.f1.length y0.f1) (hc0_1 : y0.f1.length ≤ c0_1) (hr0_4 : Kd.C (Kd.slice 5 (Kd.int .u8)) w A0_4 y0.f2.f2.length y0.f2.f2) (hc0_4 : y0.f2.f2.length ≤ c0_4) :
    Calls Try.prog 4 #[.agg #[.int .i64 y0.f0, .slice A0_1 y0.f1.length c0_1, .int .i64 y0.f2.f0, .int .i64 y0.f2.f1, .slice A0_4 y0.f2.f2.length c0_4]] w fun e w' => e = .returned (.bool true) ∧ Below w.heap.size w w' := by
  obtain ⟨a, ps, p, n, ls⟩ := y0
  obtain ⟨_, ⟨hl1, hw1⟩, _, _, hl4, hw4⟩ := hw
  simp only at hl1 hw1 hl4 hw4 hr0_1 hc0_1 hr0_4 hc0_4 ⊢
  obtain ⟨sz, hsz, hz⟩ := szSignature_ex a p n ps ls hl1 (fun l hm => (hw1 l hm).1) hl4 (fun l hm => (hw4 l hm).1)
  obtain ⟨ksz, hsz⟩ := hsz.rounds
  by_cases c : sz < 0
  · exact law_PackSign_big a A0_1 c0_1 ps p n A0_4 c0_4 ls w hr0_1 hc0_1 hr0_4 hc0_4 ksz sz hsz c
  have hz := hz c
  have m1 : ∀ l ∈ ps, l.length ≤ 1048576 := fun l hm => by have := mem_flat hm; omega
  have m4 : ∀ l ∈ ls, l.length ≤ 1048576 := fun l hm => by have := mem_flat hm; omega
  obtain ⟨L, hL, hi, hs⟩ := sides_any n p
  have hs := spec_PackSign_ev a ps p n L hs ls (by omega) (by rw [packL_flat]; simp only [List.length_append, List.flatten_append, List.flatten_cons, List.flatten_nil, List.length_cons, List.length_nil]; omega)
  have hI := fun (B1 : Option Addr) (d1 : Nat) (B4 : Option Addr) (d4 : Nat) (W : World) h1 e1 h4 e4 => packSign_impl a ps p n L hi ls (by omega) (fun w hm => by have := m1 w hm; omega) (fun w hm => by have := m4 w hm; omega) B1 d1 B4 d4 W h1 e1 h4 e4
  have hn := packSignV_length a ps p n L ls
  generalize packSignV a ps p n L ls = r at *
  obtain ⟨q, rb⟩ := r
  simp only at hn hI
  have u1 : ∀ l ∈ ps, l.length ≤ 281474976710656 := fun l hm => by have := m1 l hm; omega
  have u4 : ∀ l ∈ ls, l.length ≤ 281474976710656 := fun l hm => by have := m4 l hm; omega
  obtain ⟨kt, ht⟩ := (show Ev (fun k => laws_toSignature.f k a ps p n ls) (a, ps, p, n, ls) from by
    unfold laws_toSignature.f laws_toProof.f
    exact ev_bind (toByteSS_ev ps (by omega) u1) (ev_bind (ev_bind (toByteSS_ev ls (by omega) u4) (ev_now rfl)) (ev_now rfl))).rounds
  obtain ⟨ke, he⟩ := (show Ev (fun k => laws_eqSignature.f k a ps p n ls a ps p n ls) true from by
    unfold laws_eqSignature.f laws_eqProof.f
    exact ev_pos rfl (ev_bind (eqByteSS_ev ps (by omega) u1) (ev_pos rfl (ev_bind (ev_pos rfl (ev_pos rfl (ev_bind (eqByteSS_ev ls (by omega) u4) (ev_pos rfl (ev_now rfl))))) (ev_pos rfl (ev_now rfl)))))).rounds
  obtain ⟨ks, hs⟩ := hs.rounds
  obtain ⟨kr, her⟩ := (eqBytesResult_ev q rb (by omega)).rounds
  obtain ⟨km, hm⟩ := (markBytesResult_ev q rb (by omega)).rounds
  obtain ⟨kh, hh⟩ := (heldBytesResult_ev q rb.length (by omega)).rounds
  exact law_PackSign a A0_1 c0_1 ps p n A0_4 c0_4 ls q rb ps.flatten.length ls.flatten.length (marked 1 rb.length) sz w hr0_1 hc0_1 hr0_4 hc0_4 ke kr kh km ks ksz kt hsz c ht he hs hI her rfl rfl (by omega) (by omega) (by omega) hm (marked_length 1 rb.length) hh
end Go.Proofs.Ytchmaojmknfbpaa.Pure
