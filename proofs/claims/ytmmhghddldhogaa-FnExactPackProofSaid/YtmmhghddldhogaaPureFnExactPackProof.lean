import Derived.Test.YtmmhghddldhogaaBase
import Derived.Test.YtmmhghddldhogaaSxSpecL3SidesY
import Derived.Test.YtmmhghddldhogaaSxImplSidesY
import Derived.Test.YtmmhghddldhogaaSxImplSmall
import Derived.Test.YtmmhghddldhogaaSxSpecL1
import Derived.Test.YtmmhghddldhogaaSxLawsHelp
import Derived.Test.YtmmhghddldhogaaSxLawsHelp
import Derived.Test.YtmmhghddldhogaaSxLawsHelpSS
import Derived.Test.YtmmhghddldhogaaSxImplIsProofY
import Derived.Test.YtmmhghddldhogaaSxSpecL3RightY
import Derived.Test.YtmmhghddldhogaaSxImplPathLength
import Derived.Test.YtmmhghddldhogaaSxSpecPathLength
import Derived.Test.YtmmhghddldhogaaSxImplAreDigestsY
import Derived.Test.YtmmhghddldhogaaSxSpecL1
import Derived.Test.YtmmhghddldhogaaSxImplPackedY
import Derived.Test.YtmmhghddldhogaaSxImplPackWords
import Derived.Test.YtmmhghddldhogaaSxSpecPackWords
import Derived.Test.YtmmhghddldhogaaSxLawsHelp
import Derived.Test.YtmmhghddldhogaaSxLawsHelp
import Derived.Test.YtmmhghddldhogaaSx0
import Derived.WalkSpells
import Derived.Laws.Tables
import Derived.Laws.CopyOwn
import Derived.Test.YtmmhghddldhogaaSxLawsHelp
import Derived.Test.YtmmhghddldhogaaSxLawsHelp
import Derived.Test.YtmmhghddldhogaaSxLawsSzProofY
import Derived.Test.YtmmhghddldhogaaSxLawsToProofY
import Derived.Test.YtmmhghddldhogaaSxLawsEqProofY
import Derived.Test.YtmmhghddldhogaaSxLawsHelp
import Derived.Test.YtmmhghddldhogaaSxSpecPackProof
import Derived.Test.YtmmhghddldhogaaSxImplPackProof
import Derived.Test.YtmmhghddldhogaaSxLawsHelpSS
import Derived.Test.YtmmhghddldhogaaSxImplPackY
import Derived.Test.YtmmhghddldhogaaSxImplPackProofY
/- How a tree is split, and on which side the other parts are: the program's splitAt and sides and the reference's l3Split and l3Sides agree for 1 to 16 leaves. -/
set_option linter.unusedVariables false
namespace Go.Proofs.Ytmmhghddldhogaa.S
open Go.RowKit Go.Proofs.YtmmhghddldhogaaW.PrintWords Go.Proofs.YtmmhghddldhogaaW.PrintLast Go.Proofs.YtmmhghddldhogaaW.PrintMore Go.Proofs.Ytmmhghddldhogaa.Base

def splitV (n : Int) : Int := if n ≤ 2 then 1 else if n ≤ 4 then 2 else if n ≤ 8 then 4 else 8
theorem splitV_range {n : Int} (h : 2 ≤ n) (h1 : n ≤ 16) : 1 ≤ splitV n ∧ splitV n < n ∧ splitV n ≤ 8 ∧ n - splitV n ≤ 8 := by
  unfold splitV
  repeat' split
  all_goals omega
theorem wd (x : Int) (h0 : 0 ≤ x) (h1 : x ≤ 16) : wrap64 (2 * x) = 2 * x := w64 (by omega) (by omega)
theorem wd' (x : Int) (h0 : 0 ≤ x) (h1 : x ≤ 16) : wrap64 (x * 2) = 2 * x := by rw [w64 (by omega) (by omega)]; omega
theorem spec_split_ev {n : Int} (h : 2 ≤ n) (h1 : n ≤ 16) : Ev (fun k => spec_l3Split.f k n) (splitV n) := by
  unfold spec_l3Split.f splitV
  refine ev_step (fun k => spec_l3Split.l0.eq_2 _ _ _) ?_
  rw [wd 1 (by omega) (by omega)]
  by_cases c1 : n ≤ 2
  · rw [if_pos c1]; exact ev_neg (by omega) (ev_now rfl)
  rw [if_neg c1]; refine ev_pos (by omega) ?_
  refine ev_step (fun k => spec_l3Split.l0.eq_2 _ _ _) ?_
  rw [wd (2 * 1) (by omega) (by omega)]
  by_cases c2 : n ≤ 4
  · rw [if_pos c2]; exact ev_neg (by omega) (ev_now rfl)
  rw [if_neg c2]; refine ev_pos (by omega) ?_
  refine ev_step (fun k => spec_l3Split.l0.eq_2 _ _ _) ?_
  rw [wd (2 * (2 * 1)) (by omega) (by omega)]
  by_cases c3 : n ≤ 8
  · rw [if_pos c3]; exact ev_neg (by omega) (ev_now rfl)
  rw [if_neg c3]; refine ev_pos (by omega) ?_
  refine ev_step (fun k => spec_l3Split.l0.eq_2 _ _ _) ?_
  rw [wd (2 * (2 * (2 * 1))) (by omega) (by omega)]
  exact ev_neg (by omega) (ev_now rfl)
theorem impl_split_ev {n : Int} (h : 2 ≤ n) (h1 : n ≤ 16) : Ev (fun k => impl_splitAt.f k n) (splitV n) := by
  unfold impl_splitAt.f splitV
  refine ev_step (fun k => impl_splitAt.l0.eq_2 _ _ _) ?_
  rw [wd 1 (by omega) (by omega), wd' 1 (by omega) (by omega)]
  by_cases c1 : n ≤ 2
  · rw [if_pos c1]; exact ev_neg (by omega) (ev_now rfl)
  rw [if_neg c1]; refine ev_pos (by omega) ?_
  refine ev_step (fun k => impl_splitAt.l0.eq_2 _ _ _) ?_
  rw [wd (2 * 1) (by omega) (by omega), wd' (2 * 1) (by omega) (by omega)]
  by_cases c2 : n ≤ 4
  · rw [if_pos c2]; exact ev_neg (by omega) (ev_now rfl)
  rw [if_neg c2]; refine ev_pos (by omega) ?_
  refine ev_step (fun k => impl_splitAt.l0.eq_2 _ _ _) ?_
  rw [wd (2 * (2 * 1)) (by omega) (by omega), wd' (2 * (2 * 1)) (by omega) (by omega)]
  by_cases c3 : n ≤ 8
  · rw [if_pos c3]; exact ev_neg (by omega) (ev_now rfl)
  rw [if_neg c3]; refine ev_pos (by omega) ?_
  refine ev_step (fun k => impl_splitAt.l0.eq_2 _ _ _) ?_
  rw [wd (2 * (2 * (2 * 1))) (by omega) (by omega)]
  exact ev_neg (by omega) (ev_now rfl)
/-- The sides of the way from leaf p up in a tree of n leaves: true: the other part is on the left. -/
theorem sides_ev : ∀ (m : Nat) (n p : Int), n ≤ m → 1 ≤ n → n ≤ 16 → 0 ≤ p → p < n → ∃ L : List Bool, (L.length : Int) < n ∧ Ev (fun k => impl_sides.f k n p) L ∧ Ev (fun k => spec_l3Sides.f k n p) (L.map not) := by
  intro m
  induction m with
  | zero => intro n p h h1; omega
  | succ m ih =>
    intro n p h h1 h2 hp hq
    by_cases e : n = 1
    · refine ⟨[], by simp; omega, ?_, ?_⟩
      · exact ev_step (fun k => impl_sides.f.eq_2 _ _ _) (ev_pos e (ev_now rfl))
      · exact ev_step (fun k => spec_l3Sides.f.eq_2 _ _ _) (ev_pos (by omega) (ev_now rfl))
    · have hr := splitV_range (n := n) (by omega) h2
      have hs := spec_split_ev (n := n) (by omega) h2
      have hi := impl_split_ev (n := n) (by omega) h2
      generalize splitV n = v at hr hs hi
      by_cases c : p < v
      · obtain ⟨L, l1, l2, l3⟩ := ih v p (by omega) (by omega) (by omega) hp c
        refine ⟨L ++ [false], by simp; omega, ?_, ?_⟩
        · refine ev_step (fun k => impl_sides.f.eq_2 _ _ _) (ev_neg e (ev_bind hi (ev_pos c (ev_bind l2 (ev_pos ?_ (ev_now rfl))))))
          omega
        · refine ev_step (fun k => spec_l3Sides.f.eq_2 _ _ _) (ev_neg (by omega) (ev_bind hs (ev_pos c (ev_bind l3 (ev_pos ?_ (ev_now (by simp)))))))
          rw [List.length_map]; omega
      · obtain ⟨L, l1, l2, l3⟩ := ih (n - v) (p - v) (by omega) (by omega) (by omega) (by omega) (by omega)
        have e1 : wrap64 (n - v) = n - v := w64 (by omega) (by omega)
        have e2 : wrap64 (p - v) = p - v := w64 (by omega) (by omega)
        refine ⟨L ++ [true], by simp; omega, ?_, ?_⟩
        · refine ev_step (fun k => impl_sides.f.eq_2 _ _ _) (ev_neg e (ev_bind hi (ev_neg c ?_)))
          rw [e1, e2]
          exact ev_bind l2 (ev_pos (by omega) (ev_now rfl))
        · refine ev_step (fun k => spec_l3Sides.f.eq_2 _ _ _) (ev_neg (by omega) (ev_bind hs (ev_neg c ?_)))
          rw [e1, e2]
          exact ev_bind l3 (ev_pos (by rw [List.length_map]; omega) (ev_now (by simp)))
end Go.Proofs.Ytmmhghddldhogaa.S

/- Is a number in its bounds: the program's and the reference's answer. -/
set_option linter.unusedVariables false
namespace Go.Proofs.Ytmmhghddldhogaa.S
open Go.RowKit Go.Proofs.YtmmhghddldhogaaW.PrintWords Go.Proofs.YtmmhghddldhogaaW.PrintLast Go.Proofs.YtmmhghddldhogaaW.PrintMore Go.Proofs.Ytmmhghddldhogaa.Base

theorem in_eq (a b c : Int) : impl_in.f a b c = some (decide (b ≤ a ∧ a ≤ c)) := by
  unfold impl_in.f
  by_cases h : b ≤ a <;> simp [h]
theorem l1In_eq (a b c : Int) : spec_l1In.f a b c = some (decide (b ≤ a ∧ a ≤ c)) := by
  unfold spec_l1In.f
  by_cases h : b ≤ a <;> simp [h]
end Go.Proofs.Ytmmhghddldhogaa.S

/- What the laws' own helpers on byte slices come to: toByteS copies, eqByteS compares, markByteS and heldByteS count alike. For every slice that fits memory. -/
set_option linter.unusedVariables false
namespace Go.Proofs.Ytmmhghddldhogaa.S
open Go.RowKit Go.Proofs.YtmmhghddldhogaaW.PrintWords Go.Proofs.YtmmhghddldhogaaW.PrintLast Go.Proofs.YtmmhghddldhogaaW.PrintMore Go.Proofs.Ytmmhghddldhogaa.Base

theorem toByteS_l0 (l : List Int) (hl : l.length ≤ 281474976710656) : ∀ (d : Nat) (x : List Int) (i : Nat), i + d = l.length → x.length = l.length → (∀ j, j < i → x[j]? = l[j]?) → Ev (fun k => laws_toByteS.l0 k l x (i : Int)) l := by
  intro d
  induction d with
  | zero =>
    intro x i hi hx hj
    refine ev_step (fun k => laws_toByteS.l0.eq_2 _ _ _ _) ?_
    refine ev_neg (by omega) ?_
    rw [fill_all hx (fun j h => hj j (by omega))]
    exact ev_now rfl
  | succ d ih =>
    intro x i hi hx hj
    refine ev_step (fun k => laws_toByteS.l0.eq_2 _ _ _ _) ?_
    refine ev_pos (by omega) ?_
    refine ev_pos (by omega) ?_
    refine ev_pos (by omega) ?_
    rw [w64s (by omega), Int.toNat_natCast]
    exact ih _ (i + 1) (by omega) (by rw [List.length_set]; exact hx) (fill_step (by omega) hx hj)
theorem toByteS_ev (l : List Int) (hl : l.length ≤ 281474976710656) : Ev (fun k => laws_toByteS.f k l) l := by
  unfold laws_toByteS.f
  refine ev_pos (by omega) ?_
  refine ev_pos (by omega) ?_
  exact toByteS_l0 l hl l.length _ 0 (by omega) (by simp) (fun j h => by omega)
theorem eqByteS_l0 (l : List Int) (hl : l.length ≤ 281474976710656) : ∀ (d i : Nat), i + d = l.length → Ev (fun k => laws_eqByteS.l0 k l l (i : Int)) true := by
  intro d
  induction d with
  | zero =>
    intro i hi
    refine ev_step (fun k => laws_eqByteS.l0.eq_2 _ _ _ _) ?_
    refine ev_neg (by omega) ?_
    exact ev_now rfl
  | succ d ih =>
    intro i hi
    refine ev_step (fun k => laws_eqByteS.l0.eq_2 _ _ _ _) ?_
    refine ev_pos (by omega) ?_
    refine ev_pos (by omega) ?_
    refine ev_pos (by omega) ?_
    refine ev_pos rfl ?_
    rw [w64s (by omega)]
    exact ih (i + 1) (by omega)
theorem eqByteS_ev (l : List Int) (hl : l.length ≤ 281474976710656) : Ev (fun k => laws_eqByteS.f k l l) true := by
  unfold laws_eqByteS.f
  refine ev_pos rfl ?_
  exact eqByteS_l0 l hl l.length 0 (by omega)
end Go.Proofs.Ytmmhghddldhogaa.S

/- How many places are left behind a slice of bytes. -/
set_option linter.unusedVariables false
namespace Go.Proofs.Ytmmhghddldhogaa.S
open Go.RowKit Go.Proofs.YtmmhghddldhogaaW.PrintWords Go.Proofs.YtmmhghddldhogaaW.PrintLast Go.Proofs.YtmmhghddldhogaaW.PrintMore Go.Proofs.Ytmmhghddldhogaa.Base

def szV (n : Nat) (a : Int) : Int := if a - n < 0 then -1 else a - n
theorem szByteS_eq (l : List Int) (a : Int) (hl : l.length ≤ 9223372036854775807) (h0 : 0 ≤ a) (h1 : a ≤ 1048576) : laws_szByteS.f l a = some (szV l.length a) := by
  unfold laws_szByteS.f szV
  rw [w64 (by omega) (by omega)]
  split <;> rfl
theorem szV_range {n : Nat} {a : Int} (h : ¬ szV n a < 0) : (n : Int) ≤ a ∧ szV n a = a - n := by
  unfold szV at h ⊢
  split at h
  · omega
  · rename_i g
    rw [if_neg g]
    exact ⟨by omega, rfl⟩
end Go.Proofs.Ytmmhghddldhogaa.S

/- What the laws' helpers on slices of byte slices come to: a copy, a comparison, a size. For all that fit memory. -/
set_option linter.unusedVariables false
namespace Go.Proofs.Ytmmhghddldhogaa.S
open Go.RowKit Go.Proofs.YtmmhghddldhogaaW.PrintWords Go.Proofs.YtmmhghddldhogaaW.PrintLast Go.Proofs.YtmmhghddldhogaaW.PrintMore Go.Proofs.Ytmmhghddldhogaa.Base

theorem rdLL (ls : List (List Int)) (i : Nat) (h : i < ls.length) : rd_L2 ls (i : Int) = ls[i] := by
  unfold rd_L2
  simp [List.getD_eq_getElem?_getD, List.getElem?_eq_getElem h]
theorem toByteSS_l0 (ls : List (List Int)) (hl : ls.length ≤ 11728124029610) (hi : ∀ l ∈ ls, l.length ≤ 281474976710656) : ∀ (d : Nat) (x : List (List Int)) (i : Nat), i + d = ls.length → x.length = ls.length → (∀ j, j < i → x[j]? = ls[j]?) → Ev (fun k => laws_toByteSS.l0 k ls x (i : Int)) ls := by
  intro d
  induction d with
  | zero =>
    intro x i h hx hj
    refine ev_step (fun k => laws_toByteSS.l0.eq_2 _ _ _ _) (ev_neg (by omega) ?_)
    rw [fill_all hx (fun j h => hj j (by omega))]
    exact ev_now rfl
  | succ d ih =>
    intro x i h hx hj
    have hlt : i < ls.length := by omega
    refine ev_step (fun k => laws_toByteSS.l0.eq_2 _ _ _ _) (ev_pos (by omega) (ev_pos (by omega) ?_))
    rw [rdLL ls i hlt]
    refine ev_bind (toByteS_ev ls[i] (hi _ (List.getElem_mem _))) (ev_pos (by omega) ?_)
    rw [w64s (by omega), Int.toNat_natCast]
    refine ih _ (i + 1) (by omega) (by rw [List.length_set]; exact hx) (fun j hj' => ?_)
    rw [List.getElem?_set]
    by_cases e : i = j
    · subst e
      rw [if_pos rfl, if_pos (by omega), List.getElem?_eq_getElem hlt]
    · rw [if_neg e]
      exact hj j (by omega)
theorem toByteSS_ev (ls : List (List Int)) (hl : ls.length ≤ 11728124029610) (hi : ∀ l ∈ ls, l.length ≤ 281474976710656) : Ev (fun k => laws_toByteSS.f k ls) ls := by
  unfold laws_toByteSS.f
  exact ev_pos (by omega) (ev_pos (by omega) (toByteSS_l0 ls hl hi ls.length _ 0 (by omega) (by simp) (fun j h => by omega)))
theorem eqByteSS_l0 (ls : List (List Int)) (hl : ls.length ≤ 11728124029610) (hi : ∀ l ∈ ls, l.length ≤ 281474976710656) : ∀ (d i : Nat), i + d = ls.length → Ev (fun k => laws_eqByteSS.l0 k ls ls (i : Int)) true := by
  intro d
  induction d with
  | zero =>
    intro i h
    exact ev_step (fun k => laws_eqByteSS.l0.eq_2 _ _ _ _) (ev_neg (by omega) (ev_now rfl))
  | succ d ih =>
    intro i h
    have hlt : i < ls.length := by omega
    refine ev_step (fun k => laws_eqByteSS.l0.eq_2 _ _ _ _) (ev_pos (by omega) (ev_pos (by omega) (ev_pos (by omega) ?_)))
    rw [rdLL ls i hlt]
    refine ev_bind (eqByteS_ev ls[i] (hi _ (List.getElem_mem _))) (ev_pos rfl ?_)
    rw [w64s (by omega)]
    exact ih (i + 1) (by omega)
theorem eqByteSS_ev (ls : List (List Int)) (hl : ls.length ≤ 11728124029610) (hi : ∀ l ∈ ls, l.length ≤ 281474976710656) : Ev (fun k => laws_eqByteSS.f k ls ls) true := by
  unfold laws_eqByteSS.f
  exact ev_pos rfl (eqByteSS_l0 ls hl hi ls.length 0 (by omega))
theorem szByteSS_l0 (ls : List (List Int)) (hi : ∀ l ∈ ls, l.length ≤ 9223372036854775807) : ∀ (d i : Nat) (a : Int), i + d = ls.length → i ≤ 1048576 → ls.length ≤ 1048576 → 0 ≤ a → a ≤ 1048576 → ∃ r, Ev (fun k => laws_szByteSS.l0 k ls a (i : Int)) r ∧ r ≤ a ∧ (¬ r < 0 → ((ls.drop i).flatten.length : Int) + r = a) := by
  intro d
  induction d with
  | zero =>
    intro i a h _ _ ha hb
    refine ⟨a, ev_step (fun k => laws_szByteSS.l0.eq_2 _ _ _ _) (ev_neg (by omega) (ev_now rfl)), by omega, fun _ => ?_⟩
    rw [List.drop_of_length_le (by omega)]
    simp
  | succ d ih =>
    intro i a h h1 h2 ha hb
    have hlt : i < ls.length := by omega
    have e1 : (ls.drop i).flatten.length = ls[i].length + (ls.drop (i + 1)).flatten.length := by
      rw [List.drop_eq_getElem_cons hlt, List.flatten_cons, List.length_append]
    have hs := szByteS_eq ls[i] a (hi _ (List.getElem_mem _)) ha hb
    by_cases c : szV ls[i].length a < 0
    · refine ⟨-1, ev_step (fun k => laws_szByteSS.l0.eq_2 _ _ _ _) (ev_pos (by omega) (ev_pos (by omega) ?_)), by omega, fun g => absurd (by omega) g⟩
      rw [rdLL ls i hlt]
      exact ev_bind (ev_now hs) (ev_pos c (ev_now rfl))
    · obtain ⟨g1, g2⟩ := szV_range c
      obtain ⟨r, hr, hra, hrz⟩ := ih (i + 1) (szV ls[i].length a) (by omega) (by omega) h2 (by omega) (by omega)
      refine ⟨r, ev_step (fun k => laws_szByteSS.l0.eq_2 _ _ _ _) (ev_pos (by omega) (ev_pos (by omega) ?_)), by omega, fun g => ?_⟩
      · rw [rdLL ls i hlt]
        refine ev_bind (ev_now hs) (ev_neg c ?_)
        rw [w64s (by omega)]
        exact hr
      · have := hrz g
        rw [e1]
        omega
theorem szByteSS_ex (ls : List (List Int)) (hl : ls.length ≤ 9223372036854775807) (hi : ∀ l ∈ ls, l.length ≤ 9223372036854775807) (a : Int) (ha : 0 ≤ a) (hb : a ≤ 1048576) : ∃ r, Ev (fun k => laws_szByteSS.f k ls a) r ∧ r ≤ a ∧ (¬ r < 0 → (ls.length : Int) + (ls.flatten.length : Int) + r = a) := by
  unfold laws_szByteSS.f
  rw [w64 (by omega) (by omega)]
  by_cases c : a - (ls.length : Int) < 0
  · exact ⟨-1, ev_pos c (ev_now rfl), by omega, fun g => absurd (by omega) g⟩
  · obtain ⟨r, hr, hra, hrz⟩ := szByteSS_l0 ls hi ls.length 0 (a - (ls.length : Int)) (by omega) (by omega) (by omega) (by omega) (by omega)
    refine ⟨r, ev_neg c hr, by omega, fun g => ?_⟩
    have := hrz g
    rw [List.drop_zero] at this
    omega
theorem mem_flat {ls : List (List Int)} {l : List Int} (h : l ∈ ls) : l.length ≤ ls.flatten.length := by
  induction ls with
  | nil => cases h
  | cons x ls ih =>
    rw [List.flatten_cons, List.length_append]
    rcases List.mem_cons.1 h with rfl | h
    · omega
    · have := ih h
      omega
end Go.Proofs.Ytmmhghddldhogaa.S

/- Proofs: when one has its form, and what it climbs to: what the program's and the reference's come to. For all that fit. -/
set_option linter.unusedVariables false
namespace Go.Proofs.Ytmmhghddldhogaa.S
open Go.RowKit Go.Proofs.YtmmhghddldhogaaW.PrintWords Go.Proofs.YtmmhghddldhogaaW.PrintLast Go.Proofs.YtmmhghddldhogaaW.PrintMore Go.Proofs.Ytmmhghddldhogaa.Base

/-- A place in a tree. -/
def Placed (n p : Int) : Prop := (1 ≤ n ∧ n ≤ 16) ∧ (0 ≤ p ∧ p < n)
instance (n p : Int) : Decidable (Placed n p) := by unfold Placed; infer_instance
/-- The sides, by the reference's own words; of a place that is none, none. -/
theorem sides_ex (n p : Int) (h : Placed n p) : ∃ L : List Bool, (L.length : Int) < 16 ∧ Ev (fun k => impl_sides.f k n p) L ∧ Ev (fun k => spec_l3Sides.f k n p) (L.map not) := by
  obtain ⟨L, h1, h2, h3⟩ := sides_ev 16 n p h.1.2 h.1.1 h.1.2 h.2.1 h.2.2
  have := h.1.2
  exact ⟨L, by omega, h2, h3⟩
theorem impl_pathLength_ev (n p : Int) (L : List Bool) (h : Placed n p → Ev (fun k => impl_sides.f k n p) L) : Ev (fun k => impl_PathLength.f k n p) (if Placed n p then (0, (L.length : Int)) else (3, 0)) := by
  unfold impl_PathLength.f
  refine ev_bind (ev_now (in_eq _ _ _)) ?_
  by_cases h1 : 1 ≤ n ∧ n ≤ 16
  · refine ev_pos (decide_eq_true h1) ?_
    rw [w64 (n := n - 1) (by omega) (by omega)]
    refine ev_bind (ev_now (in_eq _ _ _)) ?_
    by_cases h2 : 0 ≤ p ∧ p ≤ n - 1
    · have hp : Placed n p := ⟨h1, h2.1, by omega⟩
      rw [if_pos hp]
      exact ev_pos (decide_eq_true h2) (ev_bind (h hp) (ev_now rfl))
    · rw [if_neg (fun hp : Placed n p => h2 ⟨hp.2.1, by have := hp.2.2; omega⟩)]
      exact ev_neg (fun g => h2 (of_decide_eq_true g)) (ev_now rfl)
  · rw [if_neg (fun hp : Placed n p => h1 hp.1)]
    exact ev_neg (fun g => h1 (of_decide_eq_true g)) (ev_now rfl)
theorem spec_pathLength_ev (n p : Int) (L : List Bool) (h : Placed n p → Ev (fun k => spec_l3Sides.f k n p) (L.map not)) : Ev (fun k => spec_PathLength.f k n p) (if Placed n p then (0, (L.length : Int)) else (3, 0)) := by
  unfold spec_PathLength.f
  refine ev_bind (ev_now (l1In_eq _ _ _)) ?_
  by_cases h1 : 1 ≤ n ∧ n ≤ 16
  · refine ev_pos (decide_eq_true h1) ?_
    rw [w64 (n := n - 1) (by omega) (by omega)]
    refine ev_bind (ev_now (l1In_eq _ _ _)) ?_
    by_cases h2 : 0 ≤ p ∧ p ≤ n - 1
    · have hp : Placed n p := ⟨h1, h2.1, by omega⟩
      rw [if_pos hp]
      exact ev_pos (decide_eq_true h2) (ev_bind (h hp) (ev_now (by rw [List.length_map])))
    · rw [if_neg (fun hp : Placed n p => h2 ⟨hp.2.1, by have := hp.2.2; omega⟩)]
      exact ev_neg (fun g => h2 (of_decide_eq_true g)) (ev_now rfl)
  · rw [if_neg (fun hp : Placed n p => h1 hp.1)]
    exact ev_neg (fun g => h1 (of_decide_eq_true g)) (ev_now rfl)
/-- All of 32 bytes. -/
def All32 (ls : List (List Int)) : Prop := ∀ l ∈ ls, l.length = 32
instance (ls : List (List Int)) : Decidable (All32 ls) := by unfold All32; infer_instance
theorem areDigests_eq (ls : List (List Int)) : impl_areDigests.f ls = some (decide (All32 ls)) := by
  unfold impl_areDigests.f
  congr 1
  rw [Bool.eq_iff_iff, List.all_eq_true, decide_eq_true_iff]
  unfold All32
  constructor
  · intro h l hl
    have := beq_iff_eq.1 (h l hl)
    omega
  · intro h l hl
    exact beq_iff_eq.2 (by have := h l hl; omega)
theorem l3Right_l0 (ls : List (List Int)) (hl : ls.length ≤ 11728124029610) (a b : Int) : ∀ (d i : Nat), i + d = ls.length → Ev (fun k => spec_l3Right.l0 k (i : Int) a b ls) (decide (All32 (ls.drop i))) := by
  intro d
  induction d with
  | zero =>
    intro i h
    rw [List.drop_of_length_le (by omega), decide_eq_true (show All32 [] from fun l hl => by cases hl)]
    exact ev_step (fun k => spec_l3Right.l0.eq_2 _ _ _ _ _) (ev_neg (by omega) (ev_now rfl))
  | succ d ih =>
    intro i h
    have hlt : i < ls.length := by omega
    refine ev_step (fun k => spec_l3Right.l0.eq_2 _ _ _ _ _) (ev_pos (by omega) (ev_pos (by omega) ?_))
    rw [rdLL ls i hlt]
    by_cases g : ls[i].length = 32
    · refine ev_pos (by omega) ?_
      rw [w64s (by omega)]
      refine ev_eq (ih (i + 1) (by omega)) ?_
      rw [Bool.eq_iff_iff, decide_eq_true_iff, decide_eq_true_iff, List.drop_eq_getElem_cons hlt]
      unfold All32
      constructor
      · intro hh l hl
        rcases List.mem_cons.1 hl with rfl | hl
        · exact g
        · exact hh l hl
      · intro hh l hl
        exact hh l (List.mem_cons_of_mem _ hl)
    · refine ev_neg (by omega) (ev_now ?_)
      rw [decide_eq_false]
      rw [List.drop_eq_getElem_cons hlt]
      exact fun hh => g (hh _ List.mem_cons_self)
/-- A proof of the right form: its place, its length, its parts. -/
def Right (n p : Int) (L : List Bool) (ls : List (List Int)) : Prop := Placed n p ∧ ls.length = L.length ∧ All32 ls
instance (n p : Int) (L : List Bool) (ls : List (List Int)) : Decidable (Right n p L ls) := by unfold Right; infer_instance
theorem impl_isProof_ev (n p : Int) (L : List Bool) (h : Placed n p → Ev (fun k => impl_sides.f k n p) L) (ls : List (List Int)) : Ev (fun k => impl_isProof.f k p n ls) (decide (Right n p L ls)) := by
  unfold impl_isProof.f
  refine ev_bind (impl_pathLength_ev n p L h) ?_
  by_cases hp : Placed n p
  · rw [if_pos hp]
    refine ev_pos rfl ?_
    by_cases hl : ls.length = L.length
    · refine ev_pos (show (L.length : Int) = (ls.length : Int) by omega) (ev_bind (ev_now (areDigests_eq ls)) (ev_now ?_))
      congr 1
      rw [Bool.eq_iff_iff, decide_eq_true_iff, decide_eq_true_iff]
      exact ⟨fun g => ⟨hp, hl, g⟩, fun g => g.2.2⟩
    · exact ev_neg (show ¬ (L.length : Int) = (ls.length : Int) by omega) (ev_now (by rw [decide_eq_false (fun g : Right n p L ls => hl g.2.1)]))
  · rw [if_neg hp]
    exact ev_neg (show ¬ (3 : Int) = 0 by decide) (ev_now (by rw [decide_eq_false (fun g : Right n p L ls => hp g.1)]))
theorem spec_right_ev (n p : Int) (L : List Bool) (h : Placed n p → Ev (fun k => spec_l3Sides.f k n p) (L.map not)) (ls : List (List Int)) (hl : ls.length ≤ 11728124029610) : Ev (fun k => spec_l3Right.f k p n ls) (decide (Right n p L ls)) := by
  unfold spec_l3Right.f
  refine ev_bind (spec_pathLength_ev n p L h) ?_
  by_cases hp : Placed n p
  · rw [if_pos hp]
    refine ev_pos rfl (ev_step (fun k => spec_l3Right.j0.eq_2 _ _ _ _ _) ?_)
    by_cases hl2 : ls.length = L.length
    · refine ev_neg (show ¬ ((ls.length : Int) != (L.length : Int)) = true by simp [hl2]) ?_
      refine ev_eq (l3Right_l0 ls hl p n ls.length 0 (by omega)) ?_
      rw [List.drop_zero, Bool.eq_iff_iff, decide_eq_true_iff, decide_eq_true_iff]
      exact ⟨fun g => ⟨hp, hl2, g⟩, fun g => g.2.2⟩
    · exact ev_pos (show ((ls.length : Int) != (L.length : Int)) = true from bne_iff_ne.2 (by omega)) (ev_now (by rw [decide_eq_false (fun g : Right n p L ls => hl2 g.2.1)]))
  · rw [if_neg hp]
    exact ev_neg (show ¬ (3 : Int) = 0 by decide) (ev_step (fun k => spec_l3Right.j0.eq_2 _ _ _ _ _) (ev_pos rfl (ev_now (by rw [decide_eq_false (fun g : Right n p L ls => hp g.1)]))))
theorem sides_any (n p : Int) : ∃ L : List Bool, L.length ≤ 15 ∧ (Placed n p → Ev (fun k => impl_sides.f k n p) L) ∧ (Placed n p → Ev (fun k => spec_l3Sides.f k n p) (L.map not)) := by
  by_cases h : Placed n p
  · obtain ⟨L, h1, h2, h3⟩ := sides_ex n p h
    exact ⟨L, by omega, fun _ => h2, fun _ => h3⟩
  · exact ⟨[], by simp, fun g => absurd g h, fun g => absurd g h⟩
end Go.Proofs.Ytmmhghddldhogaa.S

/- Words behind one another, each with its length ahead: what the program's packed and the reference's l1Pack come to. -/
set_option linter.unusedVariables false
namespace Go.Proofs.Ytmmhghddldhogaa.S
open Go.RowKit Go.Proofs.YtmmhghddldhogaaW.PrintWords Go.Proofs.YtmmhghddldhogaaW.PrintLast Go.Proofs.YtmmhghddldhogaaW.PrintMore Go.Proofs.Ytmmhghddldhogaa.Base

/-- Words behind one another, each with its length ahead. -/
def packL : List (List Int) → List Int
  | [] => []
  | w :: ws => (((w.length : Int) % 256) :: w) ++ packL ws
theorem packL_cons_length (w : List Int) (ws : List (List Int)) : (packL (w :: ws)).length = 1 + w.length + (packL ws).length := by
  simp [packL]
  omega
theorem rdW (l : List (List Int)) (i : Nat) (h : i < l.length) : rd_L2 l (i : Int) = l[i] := by
  unfold rd_L2
  simp [List.getD_eq_getElem?_getD, List.getElem?_eq_getElem h]
theorem l1Pack_l0 (ws : List (List Int)) (hw : ws.length ≤ 1048576) : ∀ (d i : Nat) (y : List Int), i + d = ws.length → y.length + (packL (ws.drop i)).length < 140737488355328 → Ev (fun k => spec_l1Pack.l0 k ws y (i : Int)) (y ++ packL (ws.drop i)) := by
  intro d
  induction d with
  | zero =>
    intro i y hi hl
    rw [List.drop_of_length_le (by omega)]
    exact ev_step (fun k => spec_l1Pack.l0.eq_2 _ _ _ _) (ev_neg (by omega) (ev_now (by simp [packL])))
  | succ d ih =>
    intro i y hi hl
    rw [List.drop_eq_getElem_cons (by omega)] at hl ⊢
    rw [packL_cons_length] at hl
    refine ev_step (fun k => spec_l1Pack.l0.eq_2 _ _ _ _) (ev_pos (by omega) (ev_pos (by omega) (ev_pos (by omega) ?_)))
    rw [rdW ws i (by omega)]
    refine ev_bind (ev_now rfl) (ev_pos (by simp; omega) ?_)
    rw [w64s (by omega)]
    refine ev_eq (ih (i + 1) _ (by omega) (by simp; omega)) ?_
    simp [packL]
theorem l1Pack_ev (ws : List (List Int)) (hw : ws.length ≤ 1048576) (hl : (packL ws).length < 140737488355328) : Ev (fun k => spec_l1Pack.f k ws) (packL ws) := by
  have h := l1Pack_l0 ws hw ws.length 0 [] (by omega) (by simpa using hl)
  unfold spec_l1Pack.f
  simpa using h
/-- The words that are packed, and whether they are few and short. -/
def packedV (ws : List (List Int)) : List Int × Bool := if ws.length > 60 then ([], false) else if (∀ w ∈ ws, w.length ≤ 200) ∧ (packL ws).length ≤ 4000 then (packL ws, true) else ([], false)
theorem packed_l0 (ws : List (List Int)) (hw : ws.length ≤ 60) (hs : ∀ w ∈ ws, w.length ≤ 9223372036854771000) : ∀ (d i : Nat) (y : List Int), i + d = ws.length → y.length ≤ 4000 → Ev (fun k => impl_packed.l0 k y ws (ws.length : Int) (i : Int)) (if (∀ w ∈ ws.drop i, w.length ≤ 200) ∧ y.length + (packL (ws.drop i)).length ≤ 4000 then (y ++ packL (ws.drop i), true) else ([], false)) := by
  intro d
  induction d with
  | zero =>
    intro i y hi hl
    rw [List.drop_of_length_le (by omega)]
    rw [if_pos ⟨fun w hw => (by cases hw), (by simpa [packL] using hl)⟩]
    exact ev_step (fun k => impl_packed.l0.eq_2 _ _ _ _ _) (ev_neg (by omega) (ev_now (by simp [packL])))
  | succ d ih =>
    intro i y hi hl
    rw [List.drop_eq_getElem_cons (by omega)]
    have hsi := hs ws[i] (List.getElem_mem _)
    refine ev_step (fun k => impl_packed.l0.eq_2 _ _ _ _ _) (ev_pos (by omega) (ev_pos (by omega) (ev_pos (by omega) ?_)))
    rw [rdW ws i (by omega), packL_cons_length]
    by_cases c : ws[i].length > 200
    · rw [if_neg (fun h => by have := h.1 ws[i] List.mem_cons_self; omega)]
      exact ev_pos (by omega) (ev_now rfl)
    · refine ev_neg (by omega) ?_
      rw [w64 (n := (y.length : Int) + 1) (by omega) (by omega), w64 (n := (y.length : Int) + 1 + (ws[i].length : Int)) (by omega) (by omega)]
      by_cases e : (y.length : Int) + 1 + (ws[i].length : Int) > 4000
      · rw [if_neg (fun h => by omega)]
        exact ev_pos e (ev_now rfl)
      · refine ev_neg e (ev_pos (by omega) (ev_bind (ev_now rfl) (ev_pos (by simp; omega) ?_)))
        rw [w64s (by omega)]
        refine ev_eq (ih (i + 1) _ (by omega) (by simp; omega)) ?_
        have hq : ((∀ w ∈ ws[i] :: ws.drop (i + 1), w.length ≤ 200) ∧ y.length + (1 + ws[i].length + (packL (ws.drop (i + 1))).length) ≤ 4000) ↔ ((∀ w ∈ ws.drop (i + 1), w.length ≤ 200) ∧ (y ++ [(ws[i].length : Int) % 256] ++ ws[i]).length + (packL (ws.drop (i + 1))).length ≤ 4000) := by
          have hlen : (y ++ [(ws[i].length : Int) % 256] ++ ws[i]).length = y.length + 1 + ws[i].length := by simp; omega
          rw [hlen]
          constructor
          · rintro ⟨h1, h2⟩
            exact ⟨fun w hw => h1 w (List.mem_cons_of_mem _ hw), by omega⟩
          · rintro ⟨h1, h2⟩
            refine ⟨fun w hw => ?_, by omega⟩
            rcases List.mem_cons.1 hw with rfl | hw
            · omega
            · exact h1 w hw
        by_cases g : (∀ w ∈ ws[i] :: ws.drop (i + 1), w.length ≤ 200) ∧ y.length + (1 + ws[i].length + (packL (ws.drop (i + 1))).length) ≤ 4000
        · rw [if_pos g, if_pos (hq.1 g)]
          simp [packL]
        · rw [if_neg g, if_neg (fun h => g (hq.2 h))]
theorem packed_ev (ws : List (List Int)) (hs : ∀ w ∈ ws, w.length ≤ 9223372036854771000) : Ev (fun k => impl_packed.f k ws) (packedV ws) := by
  unfold impl_packed.f packedV
  by_cases c : ws.length > 60
  · rw [if_pos c]; exact ev_pos (by omega) (ev_now rfl)
  · rw [if_neg c]
    have h := packed_l0 ws (by omega) hs ws.length 0 [] (by omega) (by simp)
    simp only [List.drop_zero, List.length_nil, Nat.zero_add, List.nil_append] at h
    exact ev_neg (by omega) h
end Go.Proofs.Ytmmhghddldhogaa.S

/- Words that are packed: what the program's PackWords and the reference's come to. For few words that fit. -/
set_option linter.unusedVariables false
namespace Go.Proofs.Ytmmhghddldhogaa.S
open Go.RowKit Go.Proofs.YtmmhghddldhogaaW.PrintWords Go.Proofs.YtmmhghddldhogaaW.PrintLast Go.Proofs.YtmmhghddldhogaaW.PrintMore Go.Proofs.Ytmmhghddldhogaa.Base

def packWordsV (ws : List (List Int)) : Int × List Int := if ws.length > 60 then (2, []) else if (∀ w ∈ ws, w.length ≤ 200) ∧ (packL ws).length ≤ 4000 then (0, packL ws) else (2, [])
theorem impl_PackWords_ev {ws : List (List Int)} (hs : ∀ w ∈ ws, w.length ≤ 9223372036854771000) : Ev (fun k => impl_PackWords.f k ws) (packWordsV ws) := by
  unfold impl_PackWords.f packWordsV
  have h := packed_ev ws hs
  unfold packedV at h
  by_cases c : ws.length > 60
  · rw [if_pos c] at h ⊢
    exact ev_bind h (ev_neg (by simp) (ev_now rfl))
  · rw [if_neg c] at h ⊢
    by_cases d : (∀ w ∈ ws, w.length ≤ 200) ∧ (packL ws).length ≤ 4000
    · rw [if_pos d] at h ⊢
      exact ev_bind h (ev_pos rfl (ev_now rfl))
    · rw [if_neg d] at h ⊢
      exact ev_bind h (ev_neg (by simp) (ev_now rfl))
theorem spec_PackWords_l0 (ws : List (List Int)) (hw : ws.length ≤ 60) (hl : (packL ws).length ≤ 1048576) : ∀ (d i : Nat) (s : Nat), i + d = ws.length → s + (packL (ws.drop i)).length ≤ 2097152 → Ev (fun k => spec_PackWords.l0 k ws (s : Int) (i : Int)) (if (∀ w ∈ ws.drop i, w.length ≤ 200) ∧ s + (packL (ws.drop i)).length ≤ 4000 then (0, packL ws) else (2, [])) := by
  intro d
  induction d with
  | zero =>
    intro i s hi hb
    rw [List.drop_of_length_le (by omega)] at hb ⊢
    refine ev_step (fun k => spec_PackWords.l0.eq_2 _ _ _ _) (ev_neg (by omega) ?_)
    by_cases c : s ≤ 4000
    · rw [if_pos ⟨fun w h => (by cases h), by simpa [packL] using c⟩]
      exact ev_neg (by omega) (ev_bind (l1Pack_ev ws (by omega) (by omega)) (ev_now rfl))
    · rw [if_neg (fun h => by have := h.2; simp [packL] at this; omega)]
      exact ev_pos (by omega) (ev_now rfl)
  | succ d ih =>
    intro i s hi hb
    have hlt : i < ws.length := by omega
    rw [List.drop_eq_getElem_cons hlt, packL_cons_length] at hb ⊢
    refine ev_step (fun k => spec_PackWords.l0.eq_2 _ _ _ _) (ev_pos (by omega) (ev_pos (by omega) ?_))
    rw [rdW ws i hlt]
    by_cases c : ws[i].length > 200
    · rw [if_neg (fun h => by have := h.1 ws[i] List.mem_cons_self; omega)]
      exact ev_pos (by omega) (ev_now rfl)
    · refine ev_neg (by omega) ?_
      rw [w64 (n := (s : Int) + 1) (by omega) (by omega), w64 (n := (s : Int) + 1 + (ws[i].length : Int)) (by omega) (by omega), w64s (by omega), show (s : Int) + 1 + (ws[i].length : Int) = ((s + 1 + ws[i].length : Nat) : Int) by omega]
      refine ev_eq (ih (i + 1) (s + 1 + ws[i].length) (by omega) (by omega)) ?_
      by_cases g : (∀ w ∈ ws.drop (i + 1), w.length ≤ 200) ∧ s + 1 + ws[i].length + (packL (ws.drop (i + 1))).length ≤ 4000
      · rw [if_pos g, if_pos]
        refine ⟨fun w hm => ?_, by omega⟩
        rcases List.mem_cons.1 hm with rfl | hm
        · omega
        · exact g.1 w hm
      · rw [if_neg g, if_neg]
        exact fun h => g ⟨fun w hm => h.1 w (List.mem_cons_of_mem _ hm), by omega⟩
theorem spec_PackWords_ev {ws : List (List Int)} (hl : (packL ws).length ≤ 1048576) : Ev (fun k => spec_PackWords.f k ws) (packWordsV ws) := by
  unfold spec_PackWords.f packWordsV
  by_cases c : ws.length > 60
  · rw [if_pos c]; exact ev_pos (by omega) (ev_now rfl)
  · rw [if_neg c]
    have h := spec_PackWords_l0 ws (by omega) hl ws.length 0 0 (by omega) (by simp; omega)
    simp only [List.drop_zero, Nat.zero_add] at h
    exact ev_neg (by omega) h
theorem packL_len : ∀ {ws : List (List Int)} {m : Nat}, (∀ w ∈ ws, w.length ≤ m) → (packL ws).length ≤ ws.length * (m + 1)
  | [], m, _ => by simp [packL]
  | w :: ws, m, h => by
    rw [packL_cons_length, List.length_cons, Nat.succ_mul]
    have h1 := h w List.mem_cons_self
    have h2 := packL_len (ws := ws) (m := m) (fun v hv => h v (List.mem_cons_of_mem _ hv))
    omega
theorem packLB_byt : ∀ (ws : List (List Int)), (∀ w ∈ ws, Byt w) → Byt (packL ws) := by
  intro ws
  induction ws with
  | nil => intro _; exact byt_nil
  | cons w ws ih =>
    intro h
    show Byt ((((w.length : Int) % 256) :: w) ++ packL ws)
    exact byt_append (byt_append (byt_one (x := (w.length : Int) % 256) (by omega) (by omega)) (h w List.mem_cons_self)) (ih (fun v hv => h v (List.mem_cons_of_mem _ hv)))
end Go.Proofs.Ytmmhghddldhogaa.S

/- What the laws' markByteS and heldByteS come to: places are numbered from a start on, and found numbered so. For every slice and start that fit. -/
set_option linter.unusedVariables false
namespace Go.Proofs.Ytmmhghddldhogaa.S
open Go.RowKit Go.Proofs.YtmmhghddldhogaaW.PrintWords Go.Proofs.YtmmhghddldhogaaW.PrintLast Go.Proofs.YtmmhghddldhogaaW.PrintMore Go.Proofs.Ytmmhghddldhogaa.Base

/-- n places numbered from a on. -/
def marked (a : Int) (n : Nat) : List Int := (List.range n).map fun (j : Nat) => (a + (j : Int)) % 256
theorem marked_length (a : Int) (n : Nat) : (marked a n).length = n := by simp [marked]
theorem marked_at (a : Int) (n j : Nat) (h : j < n) : (marked a n)[j]? = some ((a + (j : Int)) % 256) := by
  simp [marked, List.getElem?_map, List.getElem?_range h]
theorem markByteS_l0 (a : Int) (n : Nat) (h0 : 0 ≤ a) (h1 : a + n ≤ 4611686018427387904) : ∀ (d i : Nat) (x : List Int), i + d = n → x.length = n → (∀ j, j < i → x[j]? = (marked a n)[j]?) → Ev (fun k => laws_markByteS.l0 k x (a + (i : Int)) (i : Int)) (a + (n : Int), marked a n) := by
  intro d
  induction d with
  | zero =>
    intro i x hi hx hj
    refine ev_step (fun k => laws_markByteS.l0.eq_2 _ _ _ _) (ev_neg (by omega) ?_)
    have e : x = marked a n := fill_all (by rw [marked_length]; exact hx) (fun j h => hj j (by rw [marked_length] at h; omega))
    rw [e, show i = n by omega]
    exact ev_now rfl
  | succ d ih =>
    intro i x hi hx hj
    refine ev_step (fun k => laws_markByteS.l0.eq_2 _ _ _ _) (ev_pos (by omega) (ev_pos (by omega) ?_))
    rw [w64s (by omega), w64 (n := a + (i : Int) + 1) (by omega) (by omega), Int.toNat_natCast, show a + (i : Int) + 1 = a + ((i + 1 : Nat) : Int) by omega]
    refine ih (i + 1) _ (by omega) (by rw [List.length_set]; exact hx) ?_
    intro j hj'
    rw [List.getElem?_set]
    by_cases e : i = j
    · subst e
      rw [if_pos rfl, if_pos (by omega), marked_at a n i (by omega)]
    · rw [if_neg e]; exact hj j (by omega)
theorem markByteS_ev (l : List Int) (a : Int) (h0 : 0 ≤ a) (h1 : a + l.length ≤ 4611686018427387904) : Ev (fun k => laws_markByteS.f k l a) (a + (l.length : Int), marked a l.length) := by
  have h := markByteS_l0 a l.length h0 h1 l.length 0 l (by omega) rfl (fun j h => by omega)
  rw [show a + ((0 : Nat) : Int) = a by omega] at h
  exact h
theorem heldByteS_l0 (a : Int) (n : Nat) (h0 : 0 ≤ a) (h1 : a + n ≤ 4611686018427387904) : ∀ (d i : Nat), i + d = n → Ev (fun k => laws_heldByteS.l0 k (marked a n) (a + (i : Int)) (i : Int)) (a + (n : Int)) := by
  intro d
  induction d with
  | zero =>
    intro i hi
    refine ev_step (fun k => laws_heldByteS.l0.eq_2 _ _ _ _) (ev_neg (by rw [marked_length]; omega) ?_)
    rw [show i = n by omega]
    exact ev_now rfl
  | succ d ih =>
    intro i hi
    refine ev_step (fun k => laws_heldByteS.l0.eq_2 _ _ _ _) (ev_pos (by rw [marked_length]; omega) (ev_pos (by omega) (ev_pos ?_ ?_)))
    · unfold rd
      rw [List.getD_eq_getElem?_getD, Int.toNat_natCast, marked_at a n i (by omega)]
      rfl
    · rw [w64s (by omega), w64 (n := a + (i : Int) + 1) (by omega) (by omega), show a + (i : Int) + 1 = a + ((i + 1 : Nat) : Int) by omega]
      exact ih (i + 1) (by omega)
theorem heldByteS_ev (n : Nat) (a : Int) (h0 : 0 ≤ a) (h1 : a + n ≤ 4611686018427387904) : Ev (fun k => laws_heldByteS.f k (marked a n) a) (a + (n : Int)) := by
  have h := heldByteS_l0 a n h0 h1 n 0 (by omega)
  rw [show a + ((0 : Nat) : Int) = a by omega] at h
  exact h
end Go.Proofs.Ytmmhghddldhogaa.S

/- What the laws' helpers on a BytesResult come to. For every result that fits. -/
set_option linter.unusedVariables false
namespace Go.Proofs.Ytmmhghddldhogaa.S
open Go.RowKit Go.Proofs.YtmmhghddldhogaaW.PrintWords Go.Proofs.YtmmhghddldhogaaW.PrintLast Go.Proofs.YtmmhghddldhogaaW.PrintMore Go.Proofs.Ytmmhghddldhogaa.Base

theorem eqBytesResult_ev (c : Int) (l : List Int) (hl : l.length ≤ 281474976710656) : Ev (fun k => laws_eqBytesResult.f k c l c l) true := by
  unfold laws_eqBytesResult.f
  exact ev_pos rfl (ev_bind (eqByteS_ev l hl) (ev_pos rfl (ev_now rfl)))
theorem markBytesResult_ev (c : Int) (l : List Int) (hl : l.length ≤ 281474976710656) : Ev (fun k => laws_markBytesResult.f k c l 1) (1 + (l.length : Int), marked 1 l.length) := by
  unfold laws_markBytesResult.f
  exact ev_bind (markByteS_ev l 1 (by omega) (by omega)) (ev_now rfl)
theorem heldBytesResult_ev (c : Int) (n : Nat) (hl : n ≤ 281474976710656) : Ev (fun k => laws_heldBytesResult.f k c (marked 1 n) 1) (1 + (n : Int)) := by
  unfold laws_heldBytesResult.f
  exact ev_bind (heldByteS_ev n 1 (by omega) (by omega)) (ev_neg (by omega) (ev_now rfl))
end Go.Proofs.Ytmmhghddldhogaa.S

/- Rows of rows of the call's own, no two of which share memory; where in memory they lie; what the laws' marks make of them. No condition beyond those in the statements. -/
set_option linter.unusedVariables false
set_option linter.unusedSimpArgs false
namespace Go.Proofs.Ytmmhghddldhogaa.S
open Go Go.RowKit Go.Proofs.YtmmhghddldhogaaW.PrintWords Go.Proofs.YtmmhghddldhogaaW.PrintLast Go.Proofs.YtmmhghddldhogaaW.PrintMore Go.Proofs.Ytmmhghddldhogaa.Base

def In (lo hi : Nat) : Nat → Prop := fun k => lo ≤ k ∧ k < hi
theorem In_apart {lo hi a b : Nat} (h : hi ≤ a ∨ b ≤ lo) : ∀ k, In lo hi k → ¬ In a b k := fun k h1 h2 => by
  unfold In at h1 h2
  omega
/-- A row that was made lies in the blocks that are new. -/
theorem F_in {α : Type} {d : Kd α} {e base : Nat} {ok : Nat → Prop} {w : World} {v : Value} {xs : List α} (h : d.R e w base ok v xs) : ∃ A c, v = .slice A xs.length c ∧ xs.length ≤ c ∧ Kd.F d w (In base w.heap.size) A xs.length xs := by
  obtain ⟨A, c, rfl⟩ := Kd.R_slice h
  exact ⟨A, c, rfl, (Kd.R_reads' h).2.1, Kd.F_mono (Kd.R_F (Kd.R_bound h)) (fun k hk => ⟨hk.2.1, hk.2.2.1⟩)⟩
theorem F_keptIn {α : Type} {d : Kd α} {w w1 : World} {lo hi a b n : Nat} {A : Option Addr} {xs : List α} (h : Kd.F d w (In lo hi) A n xs) (hk : Kept w w1 (In a b)) (hd : hi ≤ a ∨ b ≤ lo) : Kd.F d w1 (In lo hi) A n xs := Kd.F_kept h hk (In_apart hd)
theorem add_block (ad : Addr) (i : Nat) : (ad.add i).block = ad.block := by
  unfold Addr.add
  split <;> rfl
/-- Rows of bytes, each its own memory, all between lo and hi. -/
def AR (base : Nat) (w : World) (lo hi : Nat) (A : Option Addr) (ls : List (List Int)) : Prop :=
  ls.length ≤ 9223372036854775807 ∧ (ls = [] ∨ ∃ (ad : Addr) (vs : Nat → Value), A = some ad ∧ (lo ≤ ad.block ∧ ad.block < hi) ∧
    (∀ i, (h : i < ls.length) → w.cell? (ad.add i) = some (vs i) ∧ Kd.R (Kd.int .u8) 5 w base (fun k => some k = (vs i).ownBlock) (vs i) ls[i]) ∧
    (∀ i k, i < ls.length → (vs i).ownBlock = some k → (lo ≤ k ∧ k < hi) ∧ k ≠ ad.block) ∧
    (∀ i j k, i < ls.length → j < ls.length → i ≠ j → (vs i).ownBlock = some k → (vs j).ownBlock ≠ some k))
section
variable {base lo hi a b : Nat} {w w1 : World} {A : Option Addr} {ls : List (List Int)}
theorem AR.below (h : AR base w lo hi A ls) (hb : Below w.heap.size w w1) : AR base w1 lo hi A ls := by
  refine ⟨h.1, h.2.imp id ?_⟩
  rintro ⟨ad, vs, hA, hg, hr, hin, hap⟩
  exact ⟨ad, vs, hA, hg, fun i hi => ⟨(hb.cell (World.block_lt_of_cell? w _ (hr i hi).1)).trans (hr i hi).1, Kd.R_below (hr i hi).2 hb⟩, hin, hap⟩
theorem AR.kept (h : AR base w lo hi A ls) (hk : Kept w w1 (In a b)) (hd : hi ≤ a ∨ b ≤ lo) : AR base w1 lo hi A ls := by
  refine ⟨h.1, h.2.imp id ?_⟩
  rintro ⟨ad, vs, hA, hg, hr, hin, hap⟩
  exact ⟨ad, vs, hA, hg, fun i hi => ⟨cell_kept (hr i hi).1 hk (by rw [add_block]; exact In_apart hd _ hg), Kd.R_kept (hr i hi).2 hk (fun k hk2 => In_apart hd k (hin i k hi hk2.symm).1)⟩, hin, hap⟩
theorem AR.foot (h : AR base w lo hi A ls) : Kd.F (Kd.slice 5 (Kd.int .u8)) w (In lo hi) A ls.length ls := fun W' hW => by
  refine ⟨rfl, h.1, fun hp => ?_⟩
  rcases h.2 with rfl | ⟨ad, vs, hA, hg, hr, hin, hap⟩
  · simp at hp
  refine ⟨ad, hA, fun j p hj => ?_⟩
  obtain ⟨hjl, hpj⟩ := List.getElem?_eq_some_iff.1 hj
  obtain ⟨hc, hR⟩ := hr j hjl
  have hR2 : Kd.R (Kd.int .u8) 5 W' base (fun k => some k = (vs j).ownBlock) (vs j) ls[j] := Kd.R_step hR (fun k ho hlt => hW k (hin j k hjl ho.symm).1 hlt)
  rw [hpj] at hR2
  obtain ⟨A', c', hv⟩ := Kd.R_slice hR2
  rw [hv] at hR2
  obtain ⟨_, h2, h3⟩ := Kd.R_reads' hR2
  refine ⟨[vs j], rfl, ⟨A', c', by rw [hv], h2, h3⟩, fun i u hu => ?_⟩
  cases i with
  | zero =>
    have e1 : vs j = u := by simpa using hu
    rw [← e1]
    show W'.cell? (ad.add (j * 1 + 0)) = _
    rw [Nat.mul_one, Nat.add_zero]
    have hb := hW ad.block hg (by have := World.block_lt_of_cell? w _ hc; rwa [add_block] at this)
    rw [← hc]
    unfold World.cell?
    rw [add_block, hb]
  | succ i => simp at hu
/-- A cut of such rows. -/
theorem AR.drop (h : AR base w lo hi A ls) (m c : Nat) (hm : m ≤ ls.length) (hc : ls.length ≤ c) : AR base w lo hi (if c = m then A else A.map (·.add m)) (ls.drop m) := by
  refine ⟨by have := h.1; rw [List.length_drop]; omega, ?_⟩
  rcases h.2 with rfl | ⟨ad, vs, hA, hg, hr, hin, hap⟩
  · exact .inl (by simp)
  by_cases hz : ls.length = m
  · exact .inl (List.drop_of_length_le (by omega))
  refine .inr ⟨ad.add m, fun i => vs (m + i), by rw [if_neg (by omega), hA]; rfl, by rw [add_block]; exact hg, fun i hi => ?_, fun i k hi hk => ?_, fun i j k hi hj hij hk => ?_⟩
  · have hi2 : m + i < ls.length := by rw [List.length_drop] at hi; omega
    obtain ⟨h1, h2⟩ := hr (m + i) hi2
    have ha : (ad.add m).add i = ad.add (m + i) := by
      unfold Addr.add
      by_cases h1 : m = 0 <;> by_cases h2 : i = 0 <;> simp [h1, h2, Nat.add_assoc]
    refine ⟨by rw [ha]; exact h1, ?_⟩
    rw [List.getElem_drop]
    exact h2
  · rw [List.length_drop] at hi
    rw [add_block]
    exact hin (m + i) k (by omega) hk
  · rw [List.length_drop] at hi hj
    exact hap (m + i) (m + j) k (by omega) (by omega) (by omega) hk
theorem AR.take (h : AR base w lo hi A ls) (m : Nat) : AR base w lo hi A (ls.take m) := by
  refine ⟨by have := h.1; rw [List.length_take]; omega, ?_⟩
  rcases h.2 with rfl | ⟨ad, vs, hA, hg, hr, hin, hap⟩
  · exact .inl (by simp)
  refine .inr ⟨ad, vs, hA, hg, fun i hi => ?_, fun i k hi hk => ?_, fun i j k hi hj hij hk => ?_⟩
  · rw [List.length_take] at hi
    rw [List.getElem_take]
    exact hr i (by omega)
  · rw [List.length_take] at hi
    exact hin i k (by omega) hk
  · rw [List.length_take] at hi hj
    exact hap i j k (by omega) (by omega) hij hk
theorem AR.nil (base : Nat) (w : World) (lo hi : Nat) (A : Option Addr) : AR base w lo hi A [] := ⟨by simp, .inl rfl⟩
end
/-- What the printed walks call apart is so. -/
theorem AR_of_S {e base base0 : Nat} {ok : Nat → Prop} {w : World} {v : Value} {ls : List (List Int)} (h : Kd.S (Kd.slice 5 (Kd.int .u8)) e w base0 ok v ls) (hb : base ≤ base0) :
    ∃ A c, v = .slice A ls.length c ∧ ls.length ≤ c ∧ AR base w base0 w.heap.size A ls := by
  have hR := Kd.S_R h
  obtain ⟨A, c, rfl⟩ := Kd.R_slice hR
  obtain ⟨_, hc, hC⟩ := Kd.R_reads' hR
  refine ⟨A, c, rfl, hc, hC.2.1, ?_⟩
  by_cases hz : ls = []
  · exact .inl hz
  have hp : 0 < ls.length := by cases ls with
    | nil => exact absurd rfl hz
    | cons x l => simp
  obtain ⟨f, hf⟩ := h
  obtain ⟨g, cap, hv, hg0, hg1, cells, hcells⟩ := Kd.R_form hR hp
  injection hv with hv1 hv2 hv3
  subst hv1
  have each : ∀ i, (hi : i < ls.length) → ∃ u, w.cell? ⟨g, i, none⟩ = some u ∧ Kd.R (Kd.int .u8) 5 w base0 (fun k => (ok k ∧ k ≠ g) ∧ f k = i) u ls[i] := fun i hi => by
    obtain ⟨cs, hcl, hM, hcc, _⟩ := Kd.R_elem (d := Kd.tag f (Kd.slice 5 (Kd.int .u8))) hf ([], 0) (i : Int) (by omega) (by omega)
    have e1 : ls.zipIdx.getD (i : Int).toNat ([], 0) = (ls[i], i) := by
      rw [Int.toNat_natCast, List.getD_eq_getElem?_getD, Kd.zip_at (List.getElem?_eq_getElem hi)]
      rfl
    rw [e1] at hM
    obtain ⟨u, rfl, hu⟩ := hM
    refine ⟨u, ?_, hu⟩
    have h1 := hcc 0 u rfl
    rw [Int.toNat_natCast] at h1
    have h2 : w.cell? ⟨g, i * 1 + 0, none⟩ = some u := h1
    rwa [Nat.mul_one, Nat.add_zero] at h2
  refine .inr ⟨⟨g, 0, none⟩, fun i => (w.cell? ⟨g, i, none⟩).getD (.bool false), rfl, ⟨hg0, hg1⟩, fun i hi => ?_, fun i k hi hk => ?_, fun i j k hi hj hij hk hk2 => ?_⟩
  · obtain ⟨u, hu, hr⟩ := each i hi
    rw [add_plain]
    simp only [hu, Option.getD_some]
    exact ⟨trivial, Kd.R_lower (Kd.R_tight rfl hr) hb⟩
  · obtain ⟨u, hu, hr⟩ := each i hi
    simp only [hu, Option.getD_some] at hk
    have := (Kd.R_bound hr).1 k hk
    exact ⟨⟨this.2.1, this.2.2.1⟩, this.1.1.2⟩
  · obtain ⟨u, hu, hr⟩ := each i hi
    obtain ⟨u2, hu2, hr2⟩ := each j hj
    simp only [hu, Option.getD_some] at hk
    simp only [hu2, Option.getD_some] at hk2
    have h1 := (hr.1 k hk).2
    have h2 := (hr2.1 k hk2).2
    omega
/-! The marks. -/
def markAll (a : Int) : List (List Int) → List (List Int)
  | [] => []
  | l :: r => marked a l.length :: markAll (a + (l.length : Int)) r
theorem markAll_length : ∀ (ls : List (List Int)) (a : Int), (markAll a ls).length = ls.length
  | [], _ => rfl
  | l :: r, a => by simp [markAll, markAll_length r]
/-- Where row i's marks begin. -/
def offs (ls : List (List Int)) (i : Nat) : Nat := (ls.take i).flatten.length
theorem offs_step (ls : List (List Int)) (i : Nat) (h : i < ls.length) : offs ls (i + 1) = offs ls i + ls[i].length := by
  unfold offs
  rw [List.take_succ_eq_append_getElem h, List.flatten_append, List.length_append]
  simp
theorem offs_le (ls : List (List Int)) (i : Nat) : offs ls i ≤ ls.flatten.length := by
  unfold offs
  have h := congrArg List.length (congrArg List.flatten (List.take_append_drop i ls))
  rw [List.flatten_append, List.length_append] at h
  omega
theorem markAll_get : ∀ (ls : List (List Int)) (a : Int) (i : Nat) (h : i < ls.length), (markAll a ls)[i]? = some (marked (a + (offs ls i : Int)) ls[i].length)
  | [], _, i, h => by simp at h
  | l :: r, a, 0, h => by simp [markAll, offs]
  | l :: r, a, i + 1, h => by
    have h2 : i < r.length := by simpa using h
    have e : offs (l :: r) (i + 1) = l.length + offs r i := by simp [offs]
    show (markAll (a + (l.length : Int)) r)[i]? = _
    rw [markAll_get r (a + (l.length : Int)) i h2, e]
    simp only [List.getElem_cons_succ]
    rw [show a + (l.length : Int) + (offs r i : Int) = a + ((l.length + offs r i : Nat) : Int) by omega]
def midSS (a : Int) (ls : List (List Int)) (i : Nat) : List (List Int) := (markAll a ls).take i ++ ls.drop i
theorem midSS_length (a : Int) (ls : List (List Int)) (i : Nat) (h : i ≤ ls.length) : (midSS a ls i).length = ls.length := by
  simp [midSS, markAll_length]
  omega
theorem midSS_get (a : Int) (ls : List (List Int)) (i : Nat) (h : i < ls.length) : (midSS a ls i)[i]? = some ls[i] := by
  have hl : ((markAll a ls).take i).length = i := by rw [List.length_take, markAll_length]; omega
  unfold midSS
  rw [List.getElem?_append_right (by omega), hl, Nat.sub_self, List.getElem?_drop]
  simp [h]
theorem midSS_step (a : Int) (ls : List (List Int)) (i : Nat) (h : i < ls.length) : (midSS a ls i).set i (marked (a + (offs ls i : Int)) ls[i].length) = midSS a ls (i + 1) := by
  have hl : ((markAll a ls).take i).length = i := by rw [List.length_take, markAll_length]; omega
  have hg := markAll_get ls a i h
  have hlt : i < (markAll a ls).length := by rw [markAll_length]; exact h
  rw [List.getElem?_eq_getElem hlt] at hg
  have hg := Option.some.inj hg
  unfold midSS
  rw [List.set_append_right _ _ (by omega), hl, Nat.sub_self, List.drop_eq_getElem_cons h, List.set_cons_zero, List.take_succ_eq_append_getElem hlt, hg, List.append_assoc]
  rfl
theorem midSS_all (a : Int) (ls : List (List Int)) : midSS a ls ls.length = markAll a ls := by
  unfold midSS
  rw [List.take_of_length_le (by rw [markAll_length]; exact Nat.le_refl _), List.drop_of_length_le (Nat.le_refl _), List.append_nil]
/-- One row is written. -/
theorem AR.put {base lo hi : Nat} {w w1 : World} {ad : Addr} {vs : Nat → Value} {ls : List (List Int)} {i : Nat} {l2 : List Int} (hlen : ls.length ≤ 9223372036854775807) (hg : lo ≤ ad.block ∧ ad.block < hi)
    (hr : ∀ i, (h : i < ls.length) → w.cell? (ad.add i) = some (vs i) ∧ Kd.R (Kd.int .u8) 5 w base (fun k => some k = (vs i).ownBlock) (vs i) ls[i])
    (hin : ∀ i k, i < ls.length → (vs i).ownBlock = some k → (lo ≤ k ∧ k < hi) ∧ k ≠ ad.block)
    (hap : ∀ i j k, i < ls.length → j < ls.length → i ≠ j → (vs i).ownBlock = some k → (vs j).ownBlock ≠ some k)
    (hi_ : i < ls.length) (h2 : Kd.R (Kd.int .u8) 5 w1 base (fun k => some k = (vs i).ownBlock) (vs i) l2) (hk : Kept w w1 (fun k => some k = (vs i).ownBlock)) :
    (∀ j, (h : j < (ls.set i l2).length) → w1.cell? (ad.add j) = some (vs j) ∧ Kd.R (Kd.int .u8) 5 w1 base (fun k => some k = (vs j).ownBlock) (vs j) (ls.set i l2)[j]) := by
  intro j hj
  have hj2 : j < ls.length := by simpa using hj
  obtain ⟨hc, hR⟩ := hr j hj2
  refine ⟨cell_kept hc hk (by rw [add_block]; exact fun e => (hin i _ hi_ e.symm).2 rfl), ?_⟩
  rw [List.getElem_set]
  split
  · rename_i e
    subst e
    exact h2
  · rename_i e
    exact Kd.R_kept hR hk (fun k hk1 hk2 => hap i j k hi_ hj2 e hk2.symm hk1.symm)
end Go.Proofs.Ytmmhghddldhogaa.S
namespace Go.Proofs.Ytmmhghddldhogaa.S
open Go Go.RowKit Go.Proofs.YtmmhghddldhogaaW.PrintWords Go.Proofs.YtmmhghddldhogaaW.PrintLast Go.Proofs.YtmmhghddldhogaaW.PrintMore Go.Proofs.Ytmmhghddldhogaa.Base
/-- Where a walk stands still: its goal under a word. -/
def Hold (p : Prop) : Prop := p
theorem hold_here {p : Prop} (h : Hold p) : p := h
theorem hold_go {p : Prop} (h : p) : Hold p := h
theorem AR.drewN {base lo hi : Nat} {w : World} {A : Option Addr} {ls : List (List Int)} (h : AR base w lo hi A ls) (n : Nat) : AR base (w.drewN n) lo hi A ls := h.below (pw_below_drewN (Below.refl _ _) n)
theorem AR.drew {base lo hi : Nat} {w : World} {A : Option Addr} {ls : List (List Int)} (h : AR base w lo hi A ls) : AR base w.drew lo hi A ls := h.below (below_drew1 (Below.refl _ _))
theorem AR.alloc {base lo hi : Nat} {w : World} {A : Option Addr} {ls : List (List Int)} (h : AR base w lo hi A ls) (o : Obj) : AR base (w.alloc o) lo hi A ls := h.below (below_alloc (Below.refl _ _) o)
/-- A row of bytes of the call's own, between lo and hi. -/
theorem B_of_R {e base base0 : Nat} {ok : Nat → Prop} {w : World} {v : Value} {xs : List Int} (h : Kd.R (Kd.int .u8) e w base0 ok v xs) (hb : base ≤ base0) :
    ∃ A c, v = .slice A xs.length c ∧ Kd.R (Kd.int .u8) e w base (In base0 w.heap.size) (.slice A xs.length c) xs := by
  obtain ⟨A, c, rfl⟩ := Kd.R_slice h
  exact ⟨A, c, rfl, Kd.R_lower (Kd.R_mono (Kd.R_bound h) (fun k hk => ⟨hk.2.1, hk.2.2.1⟩)) hb⟩
theorem B_kept {e base lo hi a b : Nat} {w w1 : World} {v : Value} {xs : List Int} (h : Kd.R (Kd.int .u8) e w base (In lo hi) v xs) (hk : Kept w w1 (In a b)) (hd : hi ≤ a ∨ b ≤ lo) : Kd.R (Kd.int .u8) e w1 base (In lo hi) v xs := Kd.R_kept h hk (In_apart hd)
theorem B_tight {e base lo hi : Nat} {ok : Nat → Prop} {w w0 : World} {v : Value} {xs ys : List Int} (h0 : Kd.R (Kd.int .u8) e w0 base (In lo hi) v ys) (h : Kd.R (Kd.int .u8) e w base ok v xs) : Kd.R (Kd.int .u8) e w base (In lo hi) v xs := Kd.R_mono (Kd.R_tight rfl h) (fun k hk => h0.1 k hk.symm)
theorem blk_keptIn {g a b : Nat} {w w1 : World} {o : Obj} (h : w.heap[g]? = some o) (hk : Kept w w1 (In a b)) (hd : g < a ∨ b ≤ g) : w1.heap[g]? = some o := blk_kept h hk (fun h2 => by unfold In at h2; omega)
theorem row_store {P : Program} {ops : Array Oper} {rest : List Oper} {o : Oper} {a : Act} {w w0 : World} {B : Nat} {Q : Exit → Act → World → Prop} (hgd : o.guard = none) (ty : TypeId) (x y : Operand) (ho : o.op = .store ty x y)
    (g : Nat) (cells : Array Value) (hx : a.eval x = .pointer (some ⟨g, 0, none⟩)) (hy : a.eval y = .agg cells)
    (t : TypeId) (old : Array Value) (hg : w.heap[g]? = some (.cells old t (0, 0))) (hi : (P.info? ty).map (·.size) = some cells.size)
    (hold : old.size = cells.size) (h1 : cells.all (·.oneCell') = true) (hd : o.dst = none) (hb : Below B w0 w) (hB : B ≤ g)
    (h : ∀ w1 : World, w1.heap[g]? = some (.cells cells t (0, 0)) → Kept w w1 (In g (g + 1)) → Below B w0 w1 → wpList P ops Q rest a w1) : wpList P ops Q (o :: rest) a w := by
  refine wpList_store_row hgd ty x y ho g cells hx hy t old hg hi hold h1 ?_
  rw [hd]
  exact h _ (setRow_heap w g old cells t (0, 0) hg) ⟨by simp [World.setRow], fun k hk hn => setRow_other w g k cells (fun e => hn (by subst e; exact ⟨Nat.le_refl _, Nat.lt_succ_self _⟩))⟩ (below_setRow hb hB cells)
end Go.Proofs.Ytmmhghddldhogaa.S

/- The laws' mark of rows of rows: it writes these rows alone, place by place. No condition beyond those in the statement. -/
set_option linter.unusedVariables false
set_option linter.unusedSimpArgs false
namespace Go.Proofs.Ytmmhghddldhogaa.S
open Go Go.RowKit Go.Proofs.YtmmhghddldhogaaW.PrintWords Go.Proofs.YtmmhghddldhogaaW.PrintLast Go.Proofs.YtmmhghddldhogaaW.PrintMore Go.Proofs.Ytmmhghddldhogaa.Base
attribute [local go_sem] max2_int min2_int max_two min_two max_three min_three max_four min_four

set_option maxHeartbeats 8000000 in
set_option maxRecDepth 100000 in
theorem markSS_calls (ls : List (List Int)) (a : Int) (h0 : 0 ≤ a) (h1 : a + (ls.flatten.length : Int) ≤ 4611686018427387904) (w0 w : World) (lo hi : Nat) (A : Option Addr) (c : Nat) (hB : Below w0.heap.size w0 w) (hA : AR w0.heap.size w lo hi A ls) (hc : ls.length ≤ c) (hl : ls.length ≤ 1000000000) :
    Calls Try.prog 49 #[.slice A ls.length c, .int .i64 a] w fun e w' => e = .returned (.int .i64 (a + (ls.flatten.length : Int))) ∧ AR w0.heap.size w' lo hi A (markAll a ls) ∧ Below w0.heap.size w0 w' ∧ Kept w w' (In lo hi) := by
  rcases hA with ⟨hlen, rfl | ⟨ad, vs, rfl, hg, hr, hin, hap⟩⟩
  · have HB := Aside0.mk hB
    have e0 : a + (([] : List (List Int)).flatten.length : Int) = a := by simp
    rw [e0]
    clear hB
    go_enter Try.func49, Try.ntmps49
    go_wp2
    go_loopg [1, 5] 0 (fun kq v1 v5 w' => v1 = .int .i64 a ∧ v5 = .int .i64 0 ∧ w' = w)
    case atStart => exact ⟨rfl, rfl, rfl⟩
    case round =>
      obtain ⟨rfl, rfl, rfl⟩ := hrel
      go_wp2
      go_ret
      exact ⟨rfl, AR.nil _ _ _ _ _, HB.out, Kept.refl _ _⟩
  · have HI := Aside0.mk hin
    have HP := Aside0.mk hap
    have HG := Aside0.mk hg
    have HN := Aside0.mk hlen
    have HL := Aside0.mk hl
    have H0 := Aside0.mk h0
    have H1 := Aside0.mk h1
    have HB := Aside0.mk hB
    have HR := Aside0.mk (show ∀ i, (h : i < (midSS a ls 0).length) → w.cell? (ad.add i) = some (vs i) ∧ Kd.R (Kd.int .u8) 5 w w0.heap.size (fun k => some k = (vs i).ownBlock) (vs i) (midSS a ls 0)[i] from hr)
    have HK := Aside0.mk (Kept.refl w (In lo hi))
    clear hin hap hg hlen hl h0 h1 hB hr hc
    go_enter Try.func49, Try.ntmps49
    go_wp2
    go_loopg [1, 5] ls.length (fun kq v1 v5 w' => ∃ i : Nat, v5 = .int .i64 (i : Int) ∧ v1 = .int .i64 (a + (offs ls i : Int)) ∧ Aside0 (i + kq = ls.length) ∧ Aside0 (∀ j, (h : j < (midSS a ls i).length) → w'.cell? (ad.add j) = some (vs j) ∧ Kd.R (Kd.int .u8) 5 w' w0.heap.size (fun k => some k = (vs j).ownBlock) (vs j) (midSS a ls i)[j]) ∧ Aside0 (Below w0.heap.size w0 w') ∧ Aside0 (Kept w w' (In lo hi)))
    case atStart => exact ⟨0, rfl, by simp [offs], ⟨by omega⟩, HR, HB, HK⟩
    case round =>
      clear HR HB HK
      obtain ⟨i, rfl, rfl, HJ, HR, HB, HK⟩ := hrel
      cases gk with
      | zero =>
        have e := HJ.out
        obtain rfl : i = ls.length := by omega
        have e1 : offs ls ls.length = ls.flatten.length := by unfold offs; rw [List.take_of_length_le (Nat.le_refl _)]
        rw [e1]
        have HA := Aside0.mk (show AR w0.heap.size wr lo hi (some ad) (markAll a ls) from ⟨by rw [markAll_length]; exact HN.out, .inr ⟨ad, vs, rfl, HG.out, fun j hj => by
          have := HR.out j (by rw [midSS_all]; exact hj)
          simp only [midSS_all] at this
          exact this, fun j k hj hk => HI.out j k (by rw [markAll_length] at hj; exact hj) hk, fun j j2 k hj hj2 hne hk => HP.out j j2 k (by rw [markAll_length] at hj; exact hj) (by rw [markAll_length] at hj2; exact hj2) hne hk⟩⟩)
        have c1_ : decide ((ls.length : Int) < (ls.length : Int)) = false := decide_eq_false (by omega)
        clear e HR
        go_wp2
        go_ret
        exact ⟨rfl, HA.out, HB.out, HK.out⟩
      | succ k1 =>
        have e := HJ.out
        have hlt : i < ls.length := by omega
        have hll := HL.out
        have c1_ : decide ((i : Int) < (ls.length : Int)) = true := decide_eq_true (by omega)
        have p0 : (0 ≤ (i : Int)) = True := eq_true (by omega)
        have p1 : ((i : Int) < (ls.length : Int)) = True := eq_true (by omega)
        have hml := midSS_length a ls i (by omega)
        obtain ⟨hx, hRi⟩ := HR.out i (by omega)
        have hgi := midSS_get a ls i hlt
        rw [List.getElem?_eq_getElem (show i < (midSS a ls i).length by omega)] at hgi
        rw [Option.some.inj hgi] at hRi
        have ho := offs_step ls i hlt
        have hst := midSS_step a ls i hlt
        obtain ⟨row, hrow⟩ : ∃ r, r = ls[i] := ⟨_, rfl⟩
        rw [← hrow] at hRi ho hst
        have hol := offs_le ls (i + 1)
        have H0' := H0.out
        have H1' := H1.out
        obtain ⟨km, hkm⟩ := (markByteS_ev row (a + (offs ls i : Int)) (by omega) (by omega)).rounds
        have HM := Aside0.mk hkm
        have HRi := Aside0.mk hRi
        have HO := Aside0.mk (show a + (offs ls i : Int) + (row.length : Int) = a + (offs ls (i + 1) : Int) by omega)
        have HS := Aside0.mk hst
        have HML := Aside0.mk hml
        have HLT := Aside0.mk hlt
        clear hkm hRi e hll hml hgi ho hol H0' H1' hst hrow hlt
        go_wp2_with (first | (go_at_call 41; refine (laws_markByteS.calls km (fun k => some k = (vs i).ownBlock) (vs i) row _ _ _ w0 _ HB.out HRi.out HM.out).mono ?_; rintro e w1 ⟨rfl, hR1, hb1, hk1⟩; have HR1 := Aside0.mk hR1; have HB1 := Aside0.mk hb1; have HK1 := Aside0.mk hk1; clear hR1 hb1 hk1))
        rw [HO.out]
        have HK2 := Aside0.mk (show Kept w w1 (In lo hi) from HK.out.then_ HK1.out (fun k hk => .inl (HI.out i k HLT.out hk.symm).1))
        have HR2 := Aside0.mk (AR.put (by rw [HML.out]; exact HN.out) HG.out HR.out (fun j k hj hk => HI.out j k (by rw [← HML.out]; exact hj) hk) (fun j j2 k hj hj2 hne hk => HP.out j j2 k (by rw [← HML.out]; exact hj) (by rw [← HML.out]; exact hj2) hne hk) (by rw [HML.out]; exact HLT.out) (Kd.R_tight rfl HR1.out) HK1.out)
        have HR3 := Aside0.mk (show ∀ j, (h : j < (midSS a ls (i + 1)).length) → w1.cell? (ad.add j) = some (vs j) ∧ Kd.R (Kd.int .u8) 5 w1 w0.heap.size (fun k => some k = (vs j).ownBlock) (vs j) (midSS a ls (i + 1))[j] from by
          have h := HR2.out
          simp only [HS.out] at h
          exact h)
        clear hx HR HR1 HR2 HB HK HK1 HRi
        go_roundg k1
        case measure => have := HJ.out; omega
        case rel => exact ⟨i + 1, by first | rfl | (rw [w64s (by have := HJ.out; have := HL.out; omega)]), rfl, ⟨by have := HJ.out; omega⟩, HR3, HB1, HK2⟩

end Go.Proofs.Ytmmhghddldhogaa.S

/- The laws' marks with their totals told by a variable; the look at a BytesResult that is marked. No condition beyond those in the statements. -/
set_option linter.unusedVariables false
set_option linter.unusedSimpArgs false
namespace Go.Proofs.Ytmmhghddldhogaa.S
open Go Go.RowKit Go.Proofs.YtmmhghddldhogaaW.PrintWords Go.Proofs.YtmmhghddldhogaaW.PrintLast Go.Proofs.YtmmhghddldhogaaW.PrintMore Go.Proofs.Ytmmhghddldhogaa.Base
attribute [local go_sem] max2_int min2_int max_two min_two max_three min_three max_four min_four

theorem markSST_calls (ls : List (List Int)) (a : Int) (h0 : 0 ≤ a) (n : Nat) (hn : ls.flatten.length = n) (h1 : a + (n : Int) ≤ 4611686018427387904) (w0 w : World) (lo hi : Nat) (A : Option Addr) (c : Nat) (hB : Below w0.heap.size w0 w) (hA : AR w0.heap.size w lo hi A ls) (hc : ls.length ≤ c) (hl : ls.length ≤ 1000000000) :
    Calls Try.prog 49 #[.slice A ls.length c, .int .i64 a] w fun e w' => e = .returned (.int .i64 (a + (n : Int))) ∧ AR w0.heap.size w' lo hi A (markAll a ls) ∧ Below w0.heap.size w0 w' ∧ Kept w w' (In lo hi) := by
  subst hn
  exact markSS_calls ls a h0 h1 w0 w lo hi A c hB hA hc hl
theorem heldBytesResult_len (k : Nat) (r1 : Int) (A : Option Addr) (c : Nat) (ms : List Int) (n : Nat) (hn : ms.length = n) (a r : Int) (w : World) (hr : Kd.C (Kd.int .u8) w A ms.length ms) (hc : n ≤ c) (h : laws_heldBytesResult.f k r1 ms a = some r) :
    Calls Try.prog 20 #[.agg #[.int .i64 r1, .slice A n c], .int .i64 a] w fun e w' => e = .returned (.int .i64 r) ∧ Below w.heap.size w w' := by
  subst hn
  exact laws_heldBytesResult.calls k r1 A c ms a r w hr hc h

end Go.Proofs.Ytmmhghddldhogaa.S

/- The laws' mark of a proof. No condition beyond those in the statements. -/
set_option linter.unusedVariables false
set_option linter.unusedSimpArgs false
namespace Go.Proofs.Ytmmhghddldhogaa.S
open Go Go.RowKit Go.Proofs.YtmmhghddldhogaaW.PrintWords Go.Proofs.YtmmhghddldhogaaW.PrintLast Go.Proofs.YtmmhghddldhogaaW.PrintMore Go.Proofs.Ytmmhghddldhogaa.Base
attribute [local go_sem] max2_int min2_int max_two min_two max_three min_three max_four min_four

set_option maxHeartbeats 80000000 in
set_option maxRecDepth 100000 in
theorem markProof_calls (r1 r2 : Int) (ls : List (List Int)) (a : Int) (h0 : 0 ≤ a) (tt : Nat) (ht : ls.flatten.length = tt) (h1 : a + (tt : Int) ≤ 4611686018427387904) (w0 w : World) (lo hi : Nat) (A : Option Addr) (c : Nat) (hB : Below w0.heap.size w0 w) (hA : AR w0.heap.size w lo hi A ls) (hc : ls.length ≤ c) (hl : ls.length ≤ 1000000000) :
    Calls Try.prog 78 #[.agg #[.int .i64 r1, .int .i64 r2, .slice A ls.length c], .int .i64 a] w fun e w' => e = .returned (.int .i64 (a + (tt : Int))) ∧ AR w0.heap.size w' lo hi A (markAll a ls) ∧ Below w0.heap.size w0 w' ∧ Kept w w' (In lo hi) := by
  have huiProof_ := Try.underlying89
  have HA := Aside0.mk hA
  have HB := Aside0.mk hB
  have HC := Aside0.mk hc
  have HL := Aside0.mk hl
  have H0 := Aside0.mk h0
  have H1 := Aside0.mk h1
  have HT := Aside0.mk ht
  clear hA hB hc hl h0 h1 ht
  go_enter Try.func78, Try.ntmps78
  go_wp2_with (first | ((with_reducible refine gate_dst (N := 2) rfl ?_); refine hold_here ?_))
  refine hold_go ?_
  refine box_event (N := 2) (cs := #[.int .i64 r1, .int .i64 r2, .slice A ls.length c]) (t := 89) ?hgb rfl ?hrb ?_
  case hgb => rfl
  case hrb => first | (go_simp; done) | (go_simp; rfl)
  intro g hg w1 hbox hb
  have HA1 := Aside0.mk (HA.out.below hb)
  have HB1 := Aside0.mk (below_then HB.out HB.out.size hb)
  have HK1 := Aside0.mk (Kept.of_below hb (In lo hi))
  have hz0 : w1.cell? ⟨g, 0, none⟩ = some (.int .i64 r1) := (blk_cell hbox 0).trans rfl
  have hf0 := blk_frozen hbox 0
  have hz1 : w1.cell? ⟨g, 1, none⟩ = some (.int .i64 r2) := (blk_cell hbox 1).trans rfl
  have hf1 := blk_frozen hbox 1
  have hz2 : w1.cell? ⟨g, 2, none⟩ = some (.slice A ls.length c) := (blk_cell hbox 2).trans rfl
  have hf2 := blk_frozen hbox 2
  clear HA HB hb hbox hg
  go_wp2_with (first | (go_at_call 49; refine hold_here ?_))
  refine hold_go ?_
  refine (markSST_calls ls a H0.out tt HT.out H1.out w0 _ lo hi A c HB1.out HA1.out HC.out HL.out).mono ?_
  rintro e w2 ⟨rfl, ha, hb2, hk⟩
  have HA2 := Aside0.mk ha
  have HB2 := Aside0.mk hb2
  have HK2 := Aside0.mk (HK1.out.then_ hk (fun k h => .inl h))
  clear ha hb2 hk HA1 HB1 HK1 hz0 hf0 hz1 hf1 hz2 hf2
  go_wp2
  go_ret
  exact ⟨rfl, HA2.out, HB2.out, HK2.out⟩

end Go.Proofs.Ytmmhghddldhogaa.S

/- The walk over the law FnExactPackProof: the program and the reference are called, compared, and what they hold is marked. No condition beyond those in the statements. -/
set_option linter.unusedVariables false
set_option linter.unusedSimpArgs false
namespace Go.Proofs.Ytmmhghddldhogaa.S
open Go Go.RowKit Go.Proofs.YtmmhghddldhogaaW.PrintWords Go.Proofs.YtmmhghddldhogaaW.PrintLast Go.Proofs.YtmmhghddldhogaaW.PrintMore Go.Proofs.Ytmmhghddldhogaa.Base
attribute [local go_sem] max2_int min2_int max_two min_two max_three min_three max_four min_four

set_option maxHeartbeats 80000000 in
set_option maxRecDepth 100000 in
theorem law_PackProof (a0 a1 : Int) (A0 : Option Addr) (c0 : Nat) (l0 : List (List Int)) (q0 : Int) (rb1 : List Int) (n0 : Nat) (mr : List Int) (sz : Int) (w : World) (hr0 : Kd.C (Kd.slice 5 (Kd.int .u8)) w A0 l0.length l0) (hc0 : l0.length ≤ c0)
    (keqp keqr khr kimpl kmr kspec ksz kto : Nat) (h_sz : laws_szProof.f ksz a0 a1 l0 1048576 = some sz) (h_szc : ¬ sz < 0) (h_to : laws_toProof.f kto a0 a1 l0 = some (a0, a1, l0)) (h_eqp : laws_eqProof.f keqp a0 a1 l0 a0 a1 l0 = some true) (h_spec : spec_PackProof.f kspec a0 a1 l0 = some (q0, rb1)) (h_impl : impl_PackProof.f kimpl a0 a1 l0 = some (q0, rb1)) (h_eqr : laws_eqBytesResult.f keqr q0 rb1 q0 rb1 = some true) (h_n0 : l0.flatten.length = n0) (h_o0 : (0 : Int) ≤ 1) (h_p0 : 1 + (n0 : Int) ≤ 4611686018427387904) (h_u0 : l0.length ≤ 1000000000) (h_mr : laws_markBytesResult.f kmr q0 rb1 1 = some (1 + (rb1.length : Int), mr)) (h_lr : mr.length = rb1.length) (h_hr : laws_heldBytesResult.f khr q0 mr 1 = some (1 + (rb1.length : Int))) :
    Calls Try.prog 14 #[.agg #[.int .i64 a0, .int .i64 a1, .slice A0 l0.length c0]] w fun e w' => e = .returned (.bool true) ∧ Below w.heap.size w w' := by
  have hu1_ := Try.underlying86
  have hu2_ := Try.underlying89
  have hu3_ := Try.underlying24
  have HR0 := Aside0.mk hr0
  have HC0 := Aside0.mk hc0
  have H_sz := Aside0.mk h_sz
  have H_szc := Aside0.mk h_szc
  have H_to := Aside0.mk h_to
  have H_eqp := Aside0.mk h_eqp
  have H_spec := Aside0.mk h_spec
  have H_impl := Aside0.mk h_impl
  have H_eqr := Aside0.mk h_eqr
  have H_n0 := Aside0.mk h_n0
  have H_o0 := Aside0.mk h_o0
  have H_p0 := Aside0.mk h_p0
  have H_u0 := Aside0.mk h_u0
  have H_mr := Aside0.mk h_mr
  have H_lr := Aside0.mk h_lr
  have H_hr := Aside0.mk h_hr
  have HB := Aside0.mk (Below.refl w.heap.size w)
  have csz_ : decide (sz < 0) = false := decide_eq_false H_szc.out
  have cz_ : decide ((1 + (rb1.length : Int)) < 0) = false := decide_eq_false (by omega)
  have cy_ : decide ((1 + (n0 : Int)) < 0) = false := decide_eq_false (by omega)
  clear hr0 hc0 h_sz h_szc h_to h_eqp h_spec h_impl h_eqr h_n0 h_o0 h_p0 h_u0 h_mr h_lr h_hr
  go_enter Try.func14, Try.ntmps14
  go_wp2_with (first | ((with_reducible refine gate_dst (N := 1) rfl ?_); refine hold_here ?_))
  refine hold_go ?_
  refine box_event (N := 1) (cs := #[.int .i64 a0, .int .i64 a1, .slice A0 l0.length c0]) (t := 86) ?hgb rfl ?hrb ?_
  case hgb => rfl
  case hrb => first | (go_simp; done) | (go_simp; rfl)
  intro g1_ hg w1_ hbox hb
  have m_HB := Aside0.mk (below_step (by repeat (first | (with_reducible first | exact HB.out | apply below_alloc | apply pw_below_drewN | apply below_drew1) | exact HB.out)) hb)
  clear HB 
  have HB := m_HB
  clear m_HB 
  have Z1 := Aside0.mk (show w.heap.size ≤ w1_.heap.size from hb.size)
  have BK1 := Aside0.mk hbox
  have GE1 := Aside0.mk (show g1_ = w.heap.size from hg)
  have GL1 := Aside0.mk (show g1_ < w1_.heap.size from blk_lt hbox)
  clear hb hbox hg
  have hz_BK1_0 : w1_.cell? ⟨g1_, 0, none⟩ = some (.int .i64 a0) := (blk_cell BK1.out 0).trans rfl
  have hz_BK1_1 : w1_.cell? ⟨g1_, 1, none⟩ = some (.int .i64 a1) := (blk_cell BK1.out 1).trans rfl
  have hz_BK1_2 : w1_.cell? ⟨g1_, 2, none⟩ = some (.slice A0 l0.length c0) := (blk_cell BK1.out 2).trans rfl
  go_wp2_with (first | (go_at_call 73; refine hold_here ?_))
  refine hold_go ?_
  refine (laws_szProof.calls _ a0 a1 A0 c0 l0 1048576 sz _ ?s1 ?s2 H_sz.out).mono ?_
  case s1 => exact Kd.C_below HR0.out (by repeat (first | (with_reducible first | exact HB.out | apply below_alloc | apply pw_below_drewN | apply below_drew1) | exact HB.out))
  case s2 => exact HC0.out
  rintro e w2_ ⟨rfl, hb⟩
  have m_BK1 := Aside0.mk (blk_below (by (with_reducible repeat (first | refine blk_drewN ?_ _ | refine blk_drew ?_ | refine blk_alloc ?_ _)); exact BK1.out) hb)
  have m_HB := Aside0.mk (below_step (by repeat (first | (with_reducible first | exact HB.out | apply below_alloc | apply pw_below_drewN | apply below_drew1) | exact HB.out)) hb)
  clear hz_BK1_0 hz_BK1_1 hz_BK1_2
  clear HB BK1
  have HB := m_HB
  have BK1 := m_BK1
  clear m_HB m_BK1
  have Z2 := Aside0.mk (show w1_.heap.size ≤ w2_.heap.size from hb.size)
  clear hb
  have hz_BK1_0 : w2_.cell? ⟨g1_, 0, none⟩ = some (.int .i64 a0) := (blk_cell BK1.out 0).trans rfl
  have hz_BK1_1 : w2_.cell? ⟨g1_, 1, none⟩ = some (.int .i64 a1) := (blk_cell BK1.out 1).trans rfl
  have hz_BK1_2 : w2_.cell? ⟨g1_, 2, none⟩ = some (.slice A0 l0.length c0) := (blk_cell BK1.out 2).trans rfl
  go_wp2_with (first | (go_at_call 75; refine hold_here ?_))
  refine hold_go ?_
  refine (laws_toProof.calls _ a0 a1 A0 c0 l0 a0 a1 l0 _ ?s1 ?s2 H_to.out).mono ?_
  case s1 => exact Kd.C_below HR0.out (by repeat (first | (with_reducible first | exact HB.out | apply below_alloc | apply pw_below_drewN | apply below_drew1) | exact HB.out))
  case s2 => exact HC0.out
  rintro e w3_ ⟨v, rfl, ho, hb⟩
  have m_BK1 := Aside0.mk (blk_below (by (with_reducible repeat (first | refine blk_drewN ?_ _ | refine blk_drew ?_ | refine blk_alloc ?_ _)); exact BK1.out) hb)
  have m_HB := Aside0.mk (below_step (by repeat (first | (with_reducible first | exact HB.out | apply below_alloc | apply pw_below_drewN | apply below_drew1) | exact HB.out)) hb)
  clear hz_BK1_0 hz_BK1_1 hz_BK1_2
  clear HB BK1
  have HB := m_HB
  have BK1 := m_BK1
  clear m_HB m_BK1
  have Z3 := Aside0.mk (show w2_.heap.size ≤ w3_.heap.size from hb.size)
  obtain ⟨A_T0, c_T0, ev_, hc_T0, hA_T0⟩ := AR_of_S (base := w.heap.size) ho (show w.heap.size ≤ w2_.heap.size from (by have := Z1.out; have := Z2.out; have := Z3.out; have := GE1.out; have := GL1.out; omega))
  subst ev_
  have HC_T0 := Aside0.mk hc_T0
  have T0 := Aside0.mk (show AR w.heap.size w3_ w2_.heap.size w3_.heap.size A_T0 l0 from hA_T0)
  clear hc_T0 hA_T0 ho
  clear hb
  have hz_BK1_0 : w3_.cell? ⟨g1_, 0, none⟩ = some (.int .i64 a0) := (blk_cell BK1.out 0).trans rfl
  have hz_BK1_1 : w3_.cell? ⟨g1_, 1, none⟩ = some (.int .i64 a1) := (blk_cell BK1.out 1).trans rfl
  have hz_BK1_2 : w3_.cell? ⟨g1_, 2, none⟩ = some (.slice A0 l0.length c0) := (blk_cell BK1.out 2).trans rfl
  go_wp2_with (first | (go_at_call 74; refine hold_here ?_))
  refine hold_go ?_
  refine (spec_PackProof.calls _ a0 a1 (In w2_.heap.size w3_.heap.size) A_T0 c_T0 l0 q0 rb1 _ ?s1 H_spec.out).mono ?_
  case s1 => exact Kd.V_mk HC_T0.out (AR.foot (by (with_reducible repeat (first | refine AR.alloc ?_ _ | refine AR.drewN ?_ _ | refine AR.drew ?_)); exact T0.out))
  rintro e w4_ ⟨v1, rfl, ho1, hb⟩
  have m_BK1 := Aside0.mk (blk_below (by (with_reducible repeat (first | refine blk_drewN ?_ _ | refine blk_drew ?_ | refine blk_alloc ?_ _)); exact BK1.out) hb)
  have m_T0 := Aside0.mk (AR.below (by (with_reducible repeat (first | refine AR.alloc ?_ _ | refine AR.drewN ?_ _ | refine AR.drew ?_)); exact T0.out) hb)
  have m_HB := Aside0.mk (below_step (by repeat (first | (with_reducible first | exact HB.out | apply below_alloc | apply pw_below_drewN | apply below_drew1) | exact HB.out)) hb)
  clear hz_BK1_0 hz_BK1_1 hz_BK1_2
  clear HB BK1 T0
  have HB := m_HB
  have BK1 := m_BK1
  have T0 := m_T0
  clear m_HB m_BK1 m_T0
  have Z4 := Aside0.mk (show w3_.heap.size ≤ w4_.heap.size from hb.size)
  obtain ⟨A_W1, c_W1, ev_, hA_W1⟩ := B_of_R (base := w.heap.size) ho1 (show w.heap.size ≤ w3_.heap.size from (by have := Z1.out; have := Z2.out; have := Z3.out; have := Z4.out; have := GE1.out; have := GL1.out; omega))
  subst ev_
  have W1 := Aside0.mk (show Kd.R (Kd.int .u8) 5 w4_ w.heap.size (In w3_.heap.size w4_.heap.size) (.slice A_W1 rb1.length c_W1) rb1 from hA_W1)
  clear hA_W1 ho1
  clear hb
  have hz_BK1_0 : w4_.cell? ⟨g1_, 0, none⟩ = some (.int .i64 a0) := (blk_cell BK1.out 0).trans rfl
  have hz_BK1_1 : w4_.cell? ⟨g1_, 1, none⟩ = some (.int .i64 a1) := (blk_cell BK1.out 1).trans rfl
  have hz_BK1_2 : w4_.cell? ⟨g1_, 2, none⟩ = some (.slice A0 l0.length c0) := (blk_cell BK1.out 2).trans rfl
  go_wp2_with (first | ((with_reducible refine gate_dst (N := 4) rfl ?_); refine hold_here ?_))
  refine hold_go ?_
  refine box_event (N := 4) (cs := #[.int .i64 0, .slice none 0 0]) (t := 24) ?hgb rfl ?hrb ?_
  case hgb => rfl
  case hrb => first | (go_simp; done) | (go_simp; rfl)
  intro g4_ hg w5_ hbox hb
  have m_BK1 := Aside0.mk (blk_below (by (with_reducible repeat (first | refine blk_drewN ?_ _ | refine blk_drew ?_ | refine blk_alloc ?_ _)); exact BK1.out) hb)
  have m_T0 := Aside0.mk (AR.below (by (with_reducible repeat (first | refine AR.alloc ?_ _ | refine AR.drewN ?_ _ | refine AR.drew ?_)); exact T0.out) hb)
  have m_W1 := Aside0.mk (Kd.R_below (by (with_reducible repeat (first | apply Kd.R_alloc | apply Kd.R_drewN | apply Kd.R_drew)); exact W1.out) hb)
  have m_HB := Aside0.mk (below_step (by repeat (first | (with_reducible first | exact HB.out | apply below_alloc | apply pw_below_drewN | apply below_drew1) | exact HB.out)) hb)
  clear hz_BK1_0 hz_BK1_1 hz_BK1_2
  clear HB BK1 T0 W1
  have HB := m_HB
  have BK1 := m_BK1
  have T0 := m_T0
  have W1 := m_W1
  clear m_HB m_BK1 m_T0 m_W1
  have Z5 := Aside0.mk (show w4_.heap.size ≤ w5_.heap.size from hb.size)
  have BK4 := Aside0.mk hbox
  have GE4 := Aside0.mk (show g4_ = w4_.heap.size from hg)
  have GL4 := Aside0.mk (show g4_ < w5_.heap.size from blk_lt hbox)
  clear hb hbox hg
  go_wp2_with (first | ((with_reducible refine gate_store (t := 24) (p := 4) (v := .tmp 18) rfl ?_); refine hold_here ?_))
  refine hold_go ?_
  refine row_store rfl 24 (.tmp 4) (.tmp 18) rfl g4_ #[.int .i64 q0, .slice A_W1 rb1.length c_W1] rfl rfl 24 _ (by (with_reducible repeat (first | refine blk_drewN ?_ _ | refine blk_drew ?_ | refine blk_alloc ?_ _)); exact BK4.out) ?hi ?ho ?h1 rfl (by repeat (first | (with_reducible first | exact HB.out | apply below_alloc | apply pw_below_drewN | apply below_drew1) | exact HB.out)) (show w.heap.size ≤ g4_ from (by have := Z1.out; have := Z2.out; have := Z3.out; have := Z4.out; have := Z5.out; have := GE1.out; have := GL1.out; have := GE4.out; have := GL4.out; omega)) ?_
  case hi => kernel_rfl
  case ho => rfl
  case h1 => first | rfl | (simp [Value.oneCell']; done) | (go_simp; done)
  intro w6_ bo hk hb2
  clear BK4
  have m_BK1 := Aside0.mk (blk_keptIn (by (with_reducible repeat (first | refine blk_drewN ?_ _ | refine blk_drew ?_ | refine blk_alloc ?_ _)); exact BK1.out) hk (by have := Z1.out; have := Z2.out; have := Z3.out; have := Z4.out; have := Z5.out; have := GE1.out; have := GL1.out; have := GE4.out; have := GL4.out; omega))
  have m_T0 := Aside0.mk (AR.kept (by (with_reducible repeat (first | refine AR.alloc ?_ _ | refine AR.drewN ?_ _ | refine AR.drew ?_)); exact T0.out) hk (by have := Z1.out; have := Z2.out; have := Z3.out; have := Z4.out; have := Z5.out; have := GE1.out; have := GL1.out; have := GE4.out; have := GL4.out; omega))
  have m_W1 := Aside0.mk (B_kept (by (with_reducible repeat (first | apply Kd.R_alloc | apply Kd.R_drewN | apply Kd.R_drew)); exact W1.out) hk (by have := Z1.out; have := Z2.out; have := Z3.out; have := Z4.out; have := Z5.out; have := GE1.out; have := GL1.out; have := GE4.out; have := GL4.out; omega))
  have m_HB := Aside0.mk hb2
  clear HB BK1 T0 W1
  have HB := m_HB
  have BK1 := m_BK1
  have T0 := m_T0
  have W1 := m_W1
  clear m_HB m_BK1 m_T0 m_W1
  have Z6 := Aside0.mk (show w5_.heap.size ≤ w6_.heap.size from hk.1)
  have BK4 := Aside0.mk bo
  clear bo hk hb2
  have hz_BK1_0 : w6_.cell? ⟨g1_, 0, none⟩ = some (.int .i64 a0) := (blk_cell BK1.out 0).trans rfl
  have hz_BK1_1 : w6_.cell? ⟨g1_, 1, none⟩ = some (.int .i64 a1) := (blk_cell BK1.out 1).trans rfl
  have hz_BK1_2 : w6_.cell? ⟨g1_, 2, none⟩ = some (.slice A0 l0.length c0) := (blk_cell BK1.out 2).trans rfl
  have hz_BK4_0 : w6_.cell? ⟨g4_, 0, none⟩ = some (.int .i64 q0) := (blk_cell BK4.out 0).trans rfl
  have hz_BK4_1 : w6_.cell? ⟨g4_, 1, none⟩ = some (.slice A_W1 rb1.length c_W1) := (blk_cell BK4.out 1).trans rfl
  clear T0
  go_wp2_with (first | (go_at_call 75; refine hold_here ?_))
  refine hold_go ?_
  refine (laws_toProof.calls _ a0 a1 A0 c0 l0 a0 a1 l0 _ ?s1 ?s2 H_to.out).mono ?_
  case s1 => exact Kd.C_below HR0.out (by repeat (first | (with_reducible first | exact HB.out | apply below_alloc | apply pw_below_drewN | apply below_drew1) | exact HB.out))
  case s2 => exact HC0.out
  rintro e w7_ ⟨v, rfl, ho, hb⟩
  have m_BK1 := Aside0.mk (blk_below (by (with_reducible repeat (first | refine blk_drewN ?_ _ | refine blk_drew ?_ | refine blk_alloc ?_ _)); exact BK1.out) hb)
  have m_W1 := Aside0.mk (Kd.R_below (by (with_reducible repeat (first | apply Kd.R_alloc | apply Kd.R_drewN | apply Kd.R_drew)); exact W1.out) hb)
  have m_BK4 := Aside0.mk (blk_below (by (with_reducible repeat (first | refine blk_drewN ?_ _ | refine blk_drew ?_ | refine blk_alloc ?_ _)); exact BK4.out) hb)
  have m_HB := Aside0.mk (below_step (by repeat (first | (with_reducible first | exact HB.out | apply below_alloc | apply pw_below_drewN | apply below_drew1) | exact HB.out)) hb)
  clear hz_BK1_0 hz_BK1_1 hz_BK1_2 hz_BK4_0 hz_BK4_1
  clear HB BK1 W1 BK4
  have HB := m_HB
  have BK1 := m_BK1
  have W1 := m_W1
  have BK4 := m_BK4
  clear m_HB m_BK1 m_W1 m_BK4
  have Z7 := Aside0.mk (show w6_.heap.size ≤ w7_.heap.size from hb.size)
  obtain ⟨A_X0, c_X0, ev_, hc_X0, hA_X0⟩ := AR_of_S (base := w.heap.size) ho (show w.heap.size ≤ w6_.heap.size from (by have := Z1.out; have := Z2.out; have := Z3.out; have := Z4.out; have := Z5.out; have := Z6.out; have := Z7.out; have := GE1.out; have := GL1.out; have := GE4.out; have := GL4.out; omega))
  subst ev_
  have HC_X0 := Aside0.mk hc_X0
  have X0 := Aside0.mk (show AR w.heap.size w7_ w6_.heap.size w7_.heap.size A_X0 l0 from hA_X0)
  clear hc_X0 hA_X0 ho
  clear hb
  have hz_BK1_0 : w7_.cell? ⟨g1_, 0, none⟩ = some (.int .i64 a0) := (blk_cell BK1.out 0).trans rfl
  have hz_BK1_1 : w7_.cell? ⟨g1_, 1, none⟩ = some (.int .i64 a1) := (blk_cell BK1.out 1).trans rfl
  have hz_BK1_2 : w7_.cell? ⟨g1_, 2, none⟩ = some (.slice A0 l0.length c0) := (blk_cell BK1.out 2).trans rfl
  have hz_BK4_0 : w7_.cell? ⟨g4_, 0, none⟩ = some (.int .i64 q0) := (blk_cell BK4.out 0).trans rfl
  have hz_BK4_1 : w7_.cell? ⟨g4_, 1, none⟩ = some (.slice A_W1 rb1.length c_W1) := (blk_cell BK4.out 1).trans rfl
  go_wp2_with (first | ((with_reducible refine gate_dst (N := 5) rfl ?_); refine hold_here ?_))
  refine hold_go ?_
  refine box_event (N := 5) (cs := #[.int .i64 0, .int .i64 0, .slice none 0 0]) (t := 89) ?hgb rfl ?hrb ?_
  case hgb => rfl
  case hrb => first | (go_simp; done) | (go_simp; rfl)
  intro g5_ hg w8_ hbox hb
  have m_BK1 := Aside0.mk (blk_below (by (with_reducible repeat (first | refine blk_drewN ?_ _ | refine blk_drew ?_ | refine blk_alloc ?_ _)); exact BK1.out) hb)
  have m_W1 := Aside0.mk (Kd.R_below (by (with_reducible repeat (first | apply Kd.R_alloc | apply Kd.R_drewN | apply Kd.R_drew)); exact W1.out) hb)
  have m_BK4 := Aside0.mk (blk_below (by (with_reducible repeat (first | refine blk_drewN ?_ _ | refine blk_drew ?_ | refine blk_alloc ?_ _)); exact BK4.out) hb)
  have m_X0 := Aside0.mk (AR.below (by (with_reducible repeat (first | refine AR.alloc ?_ _ | refine AR.drewN ?_ _ | refine AR.drew ?_)); exact X0.out) hb)
  have m_HB := Aside0.mk (below_step (by repeat (first | (with_reducible first | exact HB.out | apply below_alloc | apply pw_below_drewN | apply below_drew1) | exact HB.out)) hb)
  clear hz_BK1_0 hz_BK1_1 hz_BK1_2 hz_BK4_0 hz_BK4_1
  clear HB BK1 W1 BK4 X0
  have HB := m_HB
  have BK1 := m_BK1
  have W1 := m_W1
  have BK4 := m_BK4
  have X0 := m_X0
  clear m_HB m_BK1 m_W1 m_BK4 m_X0
  have Z8 := Aside0.mk (show w7_.heap.size ≤ w8_.heap.size from hb.size)
  have BK5 := Aside0.mk hbox
  have GE5 := Aside0.mk (show g5_ = w7_.heap.size from hg)
  have GL5 := Aside0.mk (show g5_ < w8_.heap.size from blk_lt hbox)
  clear hb hbox hg
  go_wp2_with (first | ((with_reducible refine gate_store (t := 89) (p := 5) (v := .tmp 20) rfl ?_); refine hold_here ?_))
  refine hold_go ?_
  refine row_store rfl 89 (.tmp 5) (.tmp 20) rfl g5_ #[.int .i64 a0, .int .i64 a1, .slice A_X0 l0.length c_X0] rfl rfl 89 _ (by (with_reducible repeat (first | refine blk_drewN ?_ _ | refine blk_drew ?_ | refine blk_alloc ?_ _)); exact BK5.out) ?hi ?ho ?h1 rfl (by repeat (first | (with_reducible first | exact HB.out | apply below_alloc | apply pw_below_drewN | apply below_drew1) | exact HB.out)) (show w.heap.size ≤ g5_ from (by have := Z1.out; have := Z2.out; have := Z3.out; have := Z4.out; have := Z5.out; have := Z6.out; have := Z7.out; have := Z8.out; have := GE1.out; have := GL1.out; have := GE4.out; have := GL4.out; have := GE5.out; have := GL5.out; omega)) ?_
  case hi => kernel_rfl
  case ho => rfl
  case h1 => first | rfl | (simp [Value.oneCell']; done) | (go_simp; done)
  intro w9_ bo hk hb2
  clear BK5
  have m_BK1 := Aside0.mk (blk_keptIn (by (with_reducible repeat (first | refine blk_drewN ?_ _ | refine blk_drew ?_ | refine blk_alloc ?_ _)); exact BK1.out) hk (by have := Z1.out; have := Z2.out; have := Z3.out; have := Z4.out; have := Z5.out; have := Z6.out; have := Z7.out; have := Z8.out; have := GE1.out; have := GL1.out; have := GE4.out; have := GL4.out; have := GE5.out; have := GL5.out; omega))
  have m_W1 := Aside0.mk (B_kept (by (with_reducible repeat (first | apply Kd.R_alloc | apply Kd.R_drewN | apply Kd.R_drew)); exact W1.out) hk (by have := Z1.out; have := Z2.out; have := Z3.out; have := Z4.out; have := Z5.out; have := Z6.out; have := Z7.out; have := Z8.out; have := GE1.out; have := GL1.out; have := GE4.out; have := GL4.out; have := GE5.out; have := GL5.out; omega))
  have m_BK4 := Aside0.mk (blk_keptIn (by (with_reducible repeat (first | refine blk_drewN ?_ _ | refine blk_drew ?_ | refine blk_alloc ?_ _)); exact BK4.out) hk (by have := Z1.out; have := Z2.out; have := Z3.out; have := Z4.out; have := Z5.out; have := Z6.out; have := Z7.out; have := Z8.out; have := GE1.out; have := GL1.out; have := GE4.out; have := GL4.out; have := GE5.out; have := GL5.out; omega))
  have m_X0 := Aside0.mk (AR.kept (by (with_reducible repeat (first | refine AR.alloc ?_ _ | refine AR.drewN ?_ _ | refine AR.drew ?_)); exact X0.out) hk (by have := Z1.out; have := Z2.out; have := Z3.out; have := Z4.out; have := Z5.out; have := Z6.out; have := Z7.out; have := Z8.out; have := GE1.out; have := GL1.out; have := GE4.out; have := GL4.out; have := GE5.out; have := GL5.out; omega))
  have m_HB := Aside0.mk hb2
  clear HB BK1 W1 BK4 X0
  have HB := m_HB
  have BK1 := m_BK1
  have W1 := m_W1
  have BK4 := m_BK4
  have X0 := m_X0
  clear m_HB m_BK1 m_W1 m_BK4 m_X0
  have Z9 := Aside0.mk (show w8_.heap.size ≤ w9_.heap.size from hk.1)
  have BK5 := Aside0.mk bo
  clear bo hk hb2
  have hz_BK1_0 : w9_.cell? ⟨g1_, 0, none⟩ = some (.int .i64 a0) := (blk_cell BK1.out 0).trans rfl
  have hz_BK1_1 : w9_.cell? ⟨g1_, 1, none⟩ = some (.int .i64 a1) := (blk_cell BK1.out 1).trans rfl
  have hz_BK1_2 : w9_.cell? ⟨g1_, 2, none⟩ = some (.slice A0 l0.length c0) := (blk_cell BK1.out 2).trans rfl
  have hz_BK4_0 : w9_.cell? ⟨g4_, 0, none⟩ = some (.int .i64 q0) := (blk_cell BK4.out 0).trans rfl
  have hz_BK4_1 : w9_.cell? ⟨g4_, 1, none⟩ = some (.slice A_W1 rb1.length c_W1) := (blk_cell BK4.out 1).trans rfl
  have hz_BK5_0 : w9_.cell? ⟨g5_, 0, none⟩ = some (.int .i64 a0) := (blk_cell BK5.out 0).trans rfl
  have hz_BK5_1 : w9_.cell? ⟨g5_, 1, none⟩ = some (.int .i64 a1) := (blk_cell BK5.out 1).trans rfl
  have hz_BK5_2 : w9_.cell? ⟨g5_, 2, none⟩ = some (.slice A_X0 l0.length c_X0) := (blk_cell BK5.out 2).trans rfl
  go_wp2_with (first | (go_at_call 76; refine hold_here ?_))
  refine hold_go ?_
  refine (impl_PackProof.calls _ a0 a1 A_X0 c_X0 l0 q0 rb1 _ ?s1 ?s2 H_impl.out).mono ?_
  case s1 => exact Kd.F_now (AR.foot (by (with_reducible repeat (first | refine AR.alloc ?_ _ | refine AR.drewN ?_ _ | refine AR.drew ?_)); exact X0.out))
  case s2 => exact HC_X0.out
  rintro e w10_ ⟨v1, rfl, ho1, hb⟩
  have m_BK1 := Aside0.mk (blk_below (by (with_reducible repeat (first | refine blk_drewN ?_ _ | refine blk_drew ?_ | refine blk_alloc ?_ _)); exact BK1.out) hb)
  have m_W1 := Aside0.mk (Kd.R_below (by (with_reducible repeat (first | apply Kd.R_alloc | apply Kd.R_drewN | apply Kd.R_drew)); exact W1.out) hb)
  have m_BK4 := Aside0.mk (blk_below (by (with_reducible repeat (first | refine blk_drewN ?_ _ | refine blk_drew ?_ | refine blk_alloc ?_ _)); exact BK4.out) hb)
  have m_X0 := Aside0.mk (AR.below (by (with_reducible repeat (first | refine AR.alloc ?_ _ | refine AR.drewN ?_ _ | refine AR.drew ?_)); exact X0.out) hb)
  have m_BK5 := Aside0.mk (blk_below (by (with_reducible repeat (first | refine blk_drewN ?_ _ | refine blk_drew ?_ | refine blk_alloc ?_ _)); exact BK5.out) hb)
  have m_HB := Aside0.mk (below_step (by repeat (first | (with_reducible first | exact HB.out | apply below_alloc | apply pw_below_drewN | apply below_drew1) | exact HB.out)) hb)
  clear hz_BK1_0 hz_BK1_1 hz_BK1_2 hz_BK4_0 hz_BK4_1 hz_BK5_0 hz_BK5_1 hz_BK5_2
  clear HB BK1 W1 BK4 X0 BK5
  have HB := m_HB
  have BK1 := m_BK1
  have W1 := m_W1
  have BK4 := m_BK4
  have X0 := m_X0
  have BK5 := m_BK5
  clear m_HB m_BK1 m_W1 m_BK4 m_X0 m_BK5
  have Z10 := Aside0.mk (show w9_.heap.size ≤ w10_.heap.size from hb.size)
  obtain ⟨A_G1, c_G1, ev_, hA_G1⟩ := B_of_R (base := w.heap.size) ho1 (show w.heap.size ≤ w9_.heap.size from (by have := Z1.out; have := Z2.out; have := Z3.out; have := Z4.out; have := Z5.out; have := Z6.out; have := Z7.out; have := Z8.out; have := Z9.out; have := Z10.out; have := GE1.out; have := GL1.out; have := GE4.out; have := GL4.out; have := GE5.out; have := GL5.out; omega))
  subst ev_
  have G1 := Aside0.mk (show Kd.R (Kd.int .u8) 5 w10_ w.heap.size (In w9_.heap.size w10_.heap.size) (.slice A_G1 rb1.length c_G1) rb1 from hA_G1)
  clear hA_G1 ho1
  clear hb
  have hz_BK1_0 : w10_.cell? ⟨g1_, 0, none⟩ = some (.int .i64 a0) := (blk_cell BK1.out 0).trans rfl
  have hz_BK1_1 : w10_.cell? ⟨g1_, 1, none⟩ = some (.int .i64 a1) := (blk_cell BK1.out 1).trans rfl
  have hz_BK1_2 : w10_.cell? ⟨g1_, 2, none⟩ = some (.slice A0 l0.length c0) := (blk_cell BK1.out 2).trans rfl
  have hz_BK4_0 : w10_.cell? ⟨g4_, 0, none⟩ = some (.int .i64 q0) := (blk_cell BK4.out 0).trans rfl
  have hz_BK4_1 : w10_.cell? ⟨g4_, 1, none⟩ = some (.slice A_W1 rb1.length c_W1) := (blk_cell BK4.out 1).trans rfl
  have hz_BK5_0 : w10_.cell? ⟨g5_, 0, none⟩ = some (.int .i64 a0) := (blk_cell BK5.out 0).trans rfl
  have hz_BK5_1 : w10_.cell? ⟨g5_, 1, none⟩ = some (.int .i64 a1) := (blk_cell BK5.out 1).trans rfl
  have hz_BK5_2 : w10_.cell? ⟨g5_, 2, none⟩ = some (.slice A_X0 l0.length c_X0) := (blk_cell BK5.out 2).trans rfl
  go_wp2_with (first | ((with_reducible refine gate_dst (N := 6) rfl ?_); refine hold_here ?_))
  refine hold_go ?_
  refine box_event (N := 6) (cs := #[.int .i64 0, .slice none 0 0]) (t := 24) ?hgb rfl ?hrb ?_
  case hgb => rfl
  case hrb => first | (go_simp; done) | (go_simp; rfl)
  intro g6_ hg w11_ hbox hb
  have m_BK1 := Aside0.mk (blk_below (by (with_reducible repeat (first | refine blk_drewN ?_ _ | refine blk_drew ?_ | refine blk_alloc ?_ _)); exact BK1.out) hb)
  have m_W1 := Aside0.mk (Kd.R_below (by (with_reducible repeat (first | apply Kd.R_alloc | apply Kd.R_drewN | apply Kd.R_drew)); exact W1.out) hb)
  have m_BK4 := Aside0.mk (blk_below (by (with_reducible repeat (first | refine blk_drewN ?_ _ | refine blk_drew ?_ | refine blk_alloc ?_ _)); exact BK4.out) hb)
  have m_X0 := Aside0.mk (AR.below (by (with_reducible repeat (first | refine AR.alloc ?_ _ | refine AR.drewN ?_ _ | refine AR.drew ?_)); exact X0.out) hb)
  have m_BK5 := Aside0.mk (blk_below (by (with_reducible repeat (first | refine blk_drewN ?_ _ | refine blk_drew ?_ | refine blk_alloc ?_ _)); exact BK5.out) hb)
  have m_G1 := Aside0.mk (Kd.R_below (by (with_reducible repeat (first | apply Kd.R_alloc | apply Kd.R_drewN | apply Kd.R_drew)); exact G1.out) hb)
  have m_HB := Aside0.mk (below_step (by repeat (first | (with_reducible first | exact HB.out | apply below_alloc | apply pw_below_drewN | apply below_drew1) | exact HB.out)) hb)
  clear hz_BK1_0 hz_BK1_1 hz_BK1_2 hz_BK4_0 hz_BK4_1 hz_BK5_0 hz_BK5_1 hz_BK5_2
  clear HB BK1 W1 BK4 X0 BK5 G1
  have HB := m_HB
  have BK1 := m_BK1
  have W1 := m_W1
  have BK4 := m_BK4
  have X0 := m_X0
  have BK5 := m_BK5
  have G1 := m_G1
  clear m_HB m_BK1 m_W1 m_BK4 m_X0 m_BK5 m_G1
  have Z11 := Aside0.mk (show w10_.heap.size ≤ w11_.heap.size from hb.size)
  have BK6 := Aside0.mk hbox
  have GE6 := Aside0.mk (show g6_ = w10_.heap.size from hg)
  have GL6 := Aside0.mk (show g6_ < w11_.heap.size from blk_lt hbox)
  clear hb hbox hg
  go_wp2_with (first | ((with_reducible refine gate_store (t := 24) (p := 6) (v := .tmp 22) rfl ?_); refine hold_here ?_))
  refine hold_go ?_
  refine row_store rfl 24 (.tmp 6) (.tmp 22) rfl g6_ #[.int .i64 q0, .slice A_G1 rb1.length c_G1] rfl rfl 24 _ (by (with_reducible repeat (first | refine blk_drewN ?_ _ | refine blk_drew ?_ | refine blk_alloc ?_ _)); exact BK6.out) ?hi ?ho ?h1 rfl (by repeat (first | (with_reducible first | exact HB.out | apply below_alloc | apply pw_below_drewN | apply below_drew1) | exact HB.out)) (show w.heap.size ≤ g6_ from (by have := Z1.out; have := Z2.out; have := Z3.out; have := Z4.out; have := Z5.out; have := Z6.out; have := Z7.out; have := Z8.out; have := Z9.out; have := Z10.out; have := Z11.out; have := GE1.out; have := GL1.out; have := GE4.out; have := GL4.out; have := GE5.out; have := GL5.out; have := GE6.out; have := GL6.out; omega)) ?_
  case hi => kernel_rfl
  case ho => rfl
  case h1 => first | rfl | (simp [Value.oneCell']; done) | (go_simp; done)
  intro w12_ bo hk hb2
  clear BK6
  have m_BK1 := Aside0.mk (blk_keptIn (by (with_reducible repeat (first | refine blk_drewN ?_ _ | refine blk_drew ?_ | refine blk_alloc ?_ _)); exact BK1.out) hk (by have := Z1.out; have := Z2.out; have := Z3.out; have := Z4.out; have := Z5.out; have := Z6.out; have := Z7.out; have := Z8.out; have := Z9.out; have := Z10.out; have := Z11.out; have := GE1.out; have := GL1.out; have := GE4.out; have := GL4.out; have := GE5.out; have := GL5.out; have := GE6.out; have := GL6.out; omega))
  have m_W1 := Aside0.mk (B_kept (by (with_reducible repeat (first | apply Kd.R_alloc | apply Kd.R_drewN | apply Kd.R_drew)); exact W1.out) hk (by have := Z1.out; have := Z2.out; have := Z3.out; have := Z4.out; have := Z5.out; have := Z6.out; have := Z7.out; have := Z8.out; have := Z9.out; have := Z10.out; have := Z11.out; have := GE1.out; have := GL1.out; have := GE4.out; have := GL4.out; have := GE5.out; have := GL5.out; have := GE6.out; have := GL6.out; omega))
  have m_BK4 := Aside0.mk (blk_keptIn (by (with_reducible repeat (first | refine blk_drewN ?_ _ | refine blk_drew ?_ | refine blk_alloc ?_ _)); exact BK4.out) hk (by have := Z1.out; have := Z2.out; have := Z3.out; have := Z4.out; have := Z5.out; have := Z6.out; have := Z7.out; have := Z8.out; have := Z9.out; have := Z10.out; have := Z11.out; have := GE1.out; have := GL1.out; have := GE4.out; have := GL4.out; have := GE5.out; have := GL5.out; have := GE6.out; have := GL6.out; omega))
  have m_X0 := Aside0.mk (AR.kept (by (with_reducible repeat (first | refine AR.alloc ?_ _ | refine AR.drewN ?_ _ | refine AR.drew ?_)); exact X0.out) hk (by have := Z1.out; have := Z2.out; have := Z3.out; have := Z4.out; have := Z5.out; have := Z6.out; have := Z7.out; have := Z8.out; have := Z9.out; have := Z10.out; have := Z11.out; have := GE1.out; have := GL1.out; have := GE4.out; have := GL4.out; have := GE5.out; have := GL5.out; have := GE6.out; have := GL6.out; omega))
  have m_BK5 := Aside0.mk (blk_keptIn (by (with_reducible repeat (first | refine blk_drewN ?_ _ | refine blk_drew ?_ | refine blk_alloc ?_ _)); exact BK5.out) hk (by have := Z1.out; have := Z2.out; have := Z3.out; have := Z4.out; have := Z5.out; have := Z6.out; have := Z7.out; have := Z8.out; have := Z9.out; have := Z10.out; have := Z11.out; have := GE1.out; have := GL1.out; have := GE4.out; have := GL4.out; have := GE5.out; have := GL5.out; have := GE6.out; have := GL6.out; omega))
  have m_G1 := Aside0.mk (B_kept (by (with_reducible repeat (first | apply Kd.R_alloc | apply Kd.R_drewN | apply Kd.R_drew)); exact G1.out) hk (by have := Z1.out; have := Z2.out; have := Z3.out; have := Z4.out; have := Z5.out; have := Z6.out; have := Z7.out; have := Z8.out; have := Z9.out; have := Z10.out; have := Z11.out; have := GE1.out; have := GL1.out; have := GE4.out; have := GL4.out; have := GE5.out; have := GL5.out; have := GE6.out; have := GL6.out; omega))
  have m_HB := Aside0.mk hb2
  clear HB BK1 W1 BK4 X0 BK5 G1
  have HB := m_HB
  have BK1 := m_BK1
  have W1 := m_W1
  have BK4 := m_BK4
  have X0 := m_X0
  have BK5 := m_BK5
  have G1 := m_G1
  clear m_HB m_BK1 m_W1 m_BK4 m_X0 m_BK5 m_G1
  have Z12 := Aside0.mk (show w11_.heap.size ≤ w12_.heap.size from hk.1)
  have BK6 := Aside0.mk bo
  clear bo hk hb2
  have hz_BK1_0 : w12_.cell? ⟨g1_, 0, none⟩ = some (.int .i64 a0) := (blk_cell BK1.out 0).trans rfl
  have hz_BK1_1 : w12_.cell? ⟨g1_, 1, none⟩ = some (.int .i64 a1) := (blk_cell BK1.out 1).trans rfl
  have hz_BK1_2 : w12_.cell? ⟨g1_, 2, none⟩ = some (.slice A0 l0.length c0) := (blk_cell BK1.out 2).trans rfl
  have hz_BK4_0 : w12_.cell? ⟨g4_, 0, none⟩ = some (.int .i64 q0) := (blk_cell BK4.out 0).trans rfl
  have hz_BK4_1 : w12_.cell? ⟨g4_, 1, none⟩ = some (.slice A_W1 rb1.length c_W1) := (blk_cell BK4.out 1).trans rfl
  have hz_BK5_0 : w12_.cell? ⟨g5_, 0, none⟩ = some (.int .i64 a0) := (blk_cell BK5.out 0).trans rfl
  have hz_BK5_1 : w12_.cell? ⟨g5_, 1, none⟩ = some (.int .i64 a1) := (blk_cell BK5.out 1).trans rfl
  have hz_BK5_2 : w12_.cell? ⟨g5_, 2, none⟩ = some (.slice A_X0 l0.length c_X0) := (blk_cell BK5.out 2).trans rfl
  have hz_BK6_0 : w12_.cell? ⟨g6_, 0, none⟩ = some (.int .i64 q0) := (blk_cell BK6.out 0).trans rfl
  have hz_BK6_1 : w12_.cell? ⟨g6_, 1, none⟩ = some (.slice A_G1 rb1.length c_G1) := (blk_cell BK6.out 1).trans rfl
  go_wp2_with (first | (go_at_call 18; refine hold_here ?_))
  refine hold_go ?_
  refine (laws_eqBytesResult.calls _ q0 A_G1 c_G1 rb1 q0 A_W1 c_W1 rb1 true _ ?s1 ?s2 ?s3 ?s4 H_eqr.out).mono ?_
  case s1 => exact (Kd.R_reads' (by (with_reducible repeat (first | apply Kd.R_alloc | apply Kd.R_drewN | apply Kd.R_drew)); exact G1.out)).2.2
  case s2 => exact (Kd.R_reads' G1.out).2.1
  case s3 => exact (Kd.R_reads' (by (with_reducible repeat (first | apply Kd.R_alloc | apply Kd.R_drewN | apply Kd.R_drew)); exact W1.out)).2.2
  case s4 => exact (Kd.R_reads' W1.out).2.1
  rintro e w13_ ⟨rfl, hb⟩
  have m_BK1 := Aside0.mk (blk_below (by (with_reducible repeat (first | refine blk_drewN ?_ _ | refine blk_drew ?_ | refine blk_alloc ?_ _)); exact BK1.out) hb)
  have m_W1 := Aside0.mk (Kd.R_below (by (with_reducible repeat (first | apply Kd.R_alloc | apply Kd.R_drewN | apply Kd.R_drew)); exact W1.out) hb)
  have m_BK4 := Aside0.mk (blk_below (by (with_reducible repeat (first | refine blk_drewN ?_ _ | refine blk_drew ?_ | refine blk_alloc ?_ _)); exact BK4.out) hb)
  have m_X0 := Aside0.mk (AR.below (by (with_reducible repeat (first | refine AR.alloc ?_ _ | refine AR.drewN ?_ _ | refine AR.drew ?_)); exact X0.out) hb)
  have m_BK5 := Aside0.mk (blk_below (by (with_reducible repeat (first | refine blk_drewN ?_ _ | refine blk_drew ?_ | refine blk_alloc ?_ _)); exact BK5.out) hb)
  have m_G1 := Aside0.mk (Kd.R_below (by (with_reducible repeat (first | apply Kd.R_alloc | apply Kd.R_drewN | apply Kd.R_drew)); exact G1.out) hb)
  have m_BK6 := Aside0.mk (blk_below (by (with_reducible repeat (first | refine blk_drewN ?_ _ | refine blk_drew ?_ | refine blk_alloc ?_ _)); exact BK6.out) hb)
  have m_HB := Aside0.mk (below_step (by repeat (first | (with_reducible first | exact HB.out | apply below_alloc | apply pw_below_drewN | apply below_drew1) | exact HB.out)) hb)
  clear hz_BK1_0 hz_BK1_1 hz_BK1_2 hz_BK4_0 hz_BK4_1 hz_BK5_0 hz_BK5_1 hz_BK5_2 hz_BK6_0 hz_BK6_1
  clear HB BK1 W1 BK4 X0 BK5 G1 BK6
  have HB := m_HB
  have BK1 := m_BK1
  have W1 := m_W1
  have BK4 := m_BK4
  have X0 := m_X0
  have BK5 := m_BK5
  have G1 := m_G1
  have BK6 := m_BK6
  clear m_HB m_BK1 m_W1 m_BK4 m_X0 m_BK5 m_G1 m_BK6
  have Z13 := Aside0.mk (show w12_.heap.size ≤ w13_.heap.size from hb.size)
  clear hb
  have hz_BK1_0 : w13_.cell? ⟨g1_, 0, none⟩ = some (.int .i64 a0) := (blk_cell BK1.out 0).trans rfl
  have hz_BK1_1 : w13_.cell? ⟨g1_, 1, none⟩ = some (.int .i64 a1) := (blk_cell BK1.out 1).trans rfl
  have hz_BK1_2 : w13_.cell? ⟨g1_, 2, none⟩ = some (.slice A0 l0.length c0) := (blk_cell BK1.out 2).trans rfl
  have hz_BK4_0 : w13_.cell? ⟨g4_, 0, none⟩ = some (.int .i64 q0) := (blk_cell BK4.out 0).trans rfl
  have hz_BK4_1 : w13_.cell? ⟨g4_, 1, none⟩ = some (.slice A_W1 rb1.length c_W1) := (blk_cell BK4.out 1).trans rfl
  have hz_BK5_0 : w13_.cell? ⟨g5_, 0, none⟩ = some (.int .i64 a0) := (blk_cell BK5.out 0).trans rfl
  have hz_BK5_1 : w13_.cell? ⟨g5_, 1, none⟩ = some (.int .i64 a1) := (blk_cell BK5.out 1).trans rfl
  have hz_BK5_2 : w13_.cell? ⟨g5_, 2, none⟩ = some (.slice A_X0 l0.length c_X0) := (blk_cell BK5.out 2).trans rfl
  have hz_BK6_0 : w13_.cell? ⟨g6_, 0, none⟩ = some (.int .i64 q0) := (blk_cell BK6.out 0).trans rfl
  have hz_BK6_1 : w13_.cell? ⟨g6_, 1, none⟩ = some (.slice A_G1 rb1.length c_G1) := (blk_cell BK6.out 1).trans rfl
  try go_wp2_with fail
  have m_BK1 := Aside0.mk (blk_drew BK1.out)
  have m_W1 := Aside0.mk (Kd.R_drew W1.out)
  have m_BK4 := Aside0.mk (blk_drew BK4.out)
  have m_X0 := Aside0.mk (AR.drew X0.out)
  have m_BK5 := Aside0.mk (blk_drew BK5.out)
  have m_G1 := Aside0.mk (Kd.R_drew G1.out)
  have m_BK6 := Aside0.mk (blk_drew BK6.out)
  have m_HB := Aside0.mk (below_drew1 HB.out)
  have Z14 := Aside0.mk (show w13_.heap.size ≤ w13_.drew.heap.size from Nat.le_refl _)
  clear hz_BK1_0 hz_BK1_1 hz_BK1_2 hz_BK4_0 hz_BK4_1 hz_BK5_0 hz_BK5_1 hz_BK5_2 hz_BK6_0 hz_BK6_1
  clear HB BK1 W1 BK4 X0 BK5 G1 BK6
  have HB := m_HB
  have BK1 := m_BK1
  have W1 := m_W1
  have BK4 := m_BK4
  have X0 := m_X0
  have BK5 := m_BK5
  have G1 := m_G1
  have BK6 := m_BK6
  clear m_HB m_BK1 m_W1 m_BK4 m_X0 m_BK5 m_G1 m_BK6
  refine start_ (n := 5) (S := fun w' => w'.cell? ⟨g5_, 0, none⟩ = some (.int .i64 a0) ∧ w'.cell? ⟨g5_, 1, none⟩ = some (.int .i64 a1) ∧ w'.cell? ⟨g5_, 2, none⟩ = some (.slice A_X0 l0.length c_X0) ∧ w'.cell? ⟨g1_, 0, none⟩ = some (.int .i64 a0) ∧ w'.cell? ⟨g1_, 1, none⟩ = some (.int .i64 a1) ∧ w'.cell? ⟨g1_, 2, none⟩ = some (.slice A0 l0.length c0)) (ds := []) #[false, false, false, false, false] (by kernel_rfl) rfl rfl ⟨(blk_cell BK5.out 0).trans rfl, (blk_cell BK5.out 1).trans rfl, (blk_cell BK5.out 2).trans rfl, (blk_cell BK1.out 0).trans rfl, (blk_cell BK1.out 1).trans rfl, (blk_cell BK1.out 2).trans rfl⟩ (fun hHeld => ?_)
  generalize w13_.drew = w14_ at BK1 W1 BK4 X0 BK5 G1 BK6 HB Z14 hHeld ⊢
  refine take_ (i := 0) (N := some 27) (v := ?_) (a' := ?_) #[true, false, false, false, false] rfl rfl (by kernel_rfl) (fun _ _ _ h => h) (Or.inl ⟨by rfl, ?_⟩) hHeld ?_ ?_
  rotate_left
  · rintro w' ⟨s0, s1, s2, s3, s4, s5⟩
    go_simp
    with_reducible rfl
  rotate_left
  · simp only [Act.put, List.setIfInBounds_toArray, List.set_cons_zero, List.set_cons_succ, i64_w, i32_w]
    rfl
  refine take_ (i := 1) (N := some 28) (v := ?_) (a' := ?_) #[true, true, false, false, false] rfl rfl (by kernel_rfl) (fun _ _ _ h => h) (Or.inl ⟨by rfl, ?_⟩) hHeld ?_ ?_
  rotate_left
  · rintro w' ⟨s0, s1, s2, s3, s4, s5⟩
    go_simp
    with_reducible rfl
  rotate_left
  · simp only [Act.put, List.setIfInBounds_toArray, List.set_cons_zero, List.set_cons_succ, i64_w, i32_w]
    rfl
  refine one_ (i := 2) (N := some 29) #[true, true, true, false, false] rfl rfl (by kernel_rfl) (by decide) (fun K hK => ?_)
  refine goes_ Try.func75 (by kernel_rfl) rfl #[.agg #[.int .i64 a0, .int .i64 a1, .slice A0 l0.length c0]] (by rfl) rfl rfl (by (try simp only [List.map_toArray, List.map_cons, List.map_nil]); first | done | rfl | (simp only [List.length_drop, List.length_take]; rfl)) ?_
  refine (laws_toProof.calls _ a0 a1 A0 c0 l0 a0 a1 l0 _ ?s1 ?s2 H_to.out).mono ?_
  case s1 => exact Kd.C_below HR0.out (by repeat (first | (with_reducible first | exact HB.out | apply below_alloc | apply pw_below_drewN | apply below_drew1) | exact HB.out))
  case s2 => exact HC0.out
  rintro e w15_ ⟨v, rfl, ho, hb⟩
  refine ⟨_, rfl, ?_⟩
  have m_BK1 := Aside0.mk (blk_below (by (with_reducible repeat (first | refine blk_drewN ?_ _ | refine blk_drew ?_ | refine blk_alloc ?_ _)); exact BK1.out) hb)
  have m_W1 := Aside0.mk (Kd.R_below (by (with_reducible repeat (first | apply Kd.R_alloc | apply Kd.R_drewN | apply Kd.R_drew)); exact W1.out) hb)
  have m_BK4 := Aside0.mk (blk_below (by (with_reducible repeat (first | refine blk_drewN ?_ _ | refine blk_drew ?_ | refine blk_alloc ?_ _)); exact BK4.out) hb)
  have m_X0 := Aside0.mk (AR.below (by (with_reducible repeat (first | refine AR.alloc ?_ _ | refine AR.drewN ?_ _ | refine AR.drew ?_)); exact X0.out) hb)
  have m_BK5 := Aside0.mk (blk_below (by (with_reducible repeat (first | refine blk_drewN ?_ _ | refine blk_drew ?_ | refine blk_alloc ?_ _)); exact BK5.out) hb)
  have m_G1 := Aside0.mk (Kd.R_below (by (with_reducible repeat (first | apply Kd.R_alloc | apply Kd.R_drewN | apply Kd.R_drew)); exact G1.out) hb)
  have m_BK6 := Aside0.mk (blk_below (by (with_reducible repeat (first | refine blk_drewN ?_ _ | refine blk_drew ?_ | refine blk_alloc ?_ _)); exact BK6.out) hb)
  have m_HB := Aside0.mk (below_step (by repeat (first | (with_reducible first | exact HB.out | apply below_alloc | apply pw_below_drewN | apply below_drew1) | exact HB.out)) hb)
  clear HB BK1 W1 BK4 X0 BK5 G1 BK6
  have HB := m_HB
  have BK1 := m_BK1
  have W1 := m_W1
  have BK4 := m_BK4
  have X0 := m_X0
  have BK5 := m_BK5
  have G1 := m_G1
  have BK6 := m_BK6
  clear m_HB m_BK1 m_W1 m_BK4 m_X0 m_BK5 m_G1 m_BK6
  have Z15 := Aside0.mk (show w14_.heap.size ≤ w15_.heap.size from hb.size)
  obtain ⟨A_T1, c_T1, ev_, hc_T1, hA_T1⟩ := AR_of_S (base := w.heap.size) ho (show w.heap.size ≤ w14_.heap.size from (by have := Z1.out; have := Z2.out; have := Z3.out; have := Z4.out; have := Z5.out; have := Z6.out; have := Z7.out; have := Z8.out; have := Z9.out; have := Z10.out; have := Z11.out; have := Z12.out; have := Z13.out; have := Z14.out; have := Z15.out; have := GE1.out; have := GL1.out; have := GE4.out; have := GL4.out; have := GE5.out; have := GL5.out; have := GE6.out; have := GL6.out; omega))
  subst ev_
  have HC_T1 := Aside0.mk hc_T1
  have T1 := Aside0.mk (show AR w.heap.size w15_ w14_.heap.size w15_.heap.size A_T1 l0 from hA_T1)
  clear hc_T1 hA_T1 ho
  clear hb
  refine hK.out _ _ ⟨(blk_cell BK5.out 0).trans rfl, (blk_cell BK5.out 1).trans rfl, (blk_cell BK5.out 2).trans rfl, (blk_cell BK1.out 0).trans rfl, (blk_cell BK1.out 1).trans rfl, (blk_cell BK1.out 2).trans rfl⟩ (fun hHeld => ?_)
  clear hK K
  refine norm_ (a' := ?_) ?_ ?_
  rotate_left
  · show Act.put _ (some 29) _ = _
    simp only [Act.put, List.setIfInBounds_toArray, List.set_cons_zero, List.set_cons_succ, i64_w, i32_w]
    rfl
  refine one_ (i := 3) (N := some 30) #[true, true, true, true, false] rfl rfl (by kernel_rfl) (by decide) (fun K hK => ?_)
  refine goes_ Try.func77 (by kernel_rfl) rfl #[.agg #[.int .i64 a0, .int .i64 a1, .slice A_X0 l0.length c_X0], .agg #[.int .i64 a0, .int .i64 a1, .slice A_T1 l0.length c_T1]] (by rfl) rfl rfl (by (try simp only [List.map_toArray, List.map_cons, List.map_nil]); first | done | rfl | (simp only [List.length_drop, List.length_take]; rfl)) ?_
  refine (laws_eqProof.calls _ a0 a1 A_X0 c_X0 l0 a0 a1 A_T1 c_T1 l0 true _ ?s1 ?s2 ?s3 ?s4 H_eqp.out).mono ?_
  case s1 => exact Kd.F_now (AR.foot (by (with_reducible repeat (first | refine AR.alloc ?_ _ | refine AR.drewN ?_ _ | refine AR.drew ?_)); exact X0.out))
  case s2 => exact HC_X0.out
  case s3 => exact Kd.F_now (AR.foot (by (with_reducible repeat (first | refine AR.alloc ?_ _ | refine AR.drewN ?_ _ | refine AR.drew ?_)); exact T1.out))
  case s4 => exact HC_T1.out
  rintro e w16_ ⟨rfl, hb⟩
  refine ⟨_, rfl, ?_⟩
  have m_BK1 := Aside0.mk (blk_below (by (with_reducible repeat (first | refine blk_drewN ?_ _ | refine blk_drew ?_ | refine blk_alloc ?_ _)); exact BK1.out) hb)
  have m_W1 := Aside0.mk (Kd.R_below (by (with_reducible repeat (first | apply Kd.R_alloc | apply Kd.R_drewN | apply Kd.R_drew)); exact W1.out) hb)
  have m_BK4 := Aside0.mk (blk_below (by (with_reducible repeat (first | refine blk_drewN ?_ _ | refine blk_drew ?_ | refine blk_alloc ?_ _)); exact BK4.out) hb)
  have m_X0 := Aside0.mk (AR.below (by (with_reducible repeat (first | refine AR.alloc ?_ _ | refine AR.drewN ?_ _ | refine AR.drew ?_)); exact X0.out) hb)
  have m_BK5 := Aside0.mk (blk_below (by (with_reducible repeat (first | refine blk_drewN ?_ _ | refine blk_drew ?_ | refine blk_alloc ?_ _)); exact BK5.out) hb)
  have m_G1 := Aside0.mk (Kd.R_below (by (with_reducible repeat (first | apply Kd.R_alloc | apply Kd.R_drewN | apply Kd.R_drew)); exact G1.out) hb)
  have m_BK6 := Aside0.mk (blk_below (by (with_reducible repeat (first | refine blk_drewN ?_ _ | refine blk_drew ?_ | refine blk_alloc ?_ _)); exact BK6.out) hb)
  have m_T1 := Aside0.mk (AR.below (by (with_reducible repeat (first | refine AR.alloc ?_ _ | refine AR.drewN ?_ _ | refine AR.drew ?_)); exact T1.out) hb)
  have m_HB := Aside0.mk (below_step (by repeat (first | (with_reducible first | exact HB.out | apply below_alloc | apply pw_below_drewN | apply below_drew1) | exact HB.out)) hb)
  clear HB BK1 W1 BK4 X0 BK5 G1 BK6 T1
  have HB := m_HB
  have BK1 := m_BK1
  have W1 := m_W1
  have BK4 := m_BK4
  have X0 := m_X0
  have BK5 := m_BK5
  have G1 := m_G1
  have BK6 := m_BK6
  have T1 := m_T1
  clear m_HB m_BK1 m_W1 m_BK4 m_X0 m_BK5 m_G1 m_BK6 m_T1
  have Z16 := Aside0.mk (show w15_.heap.size ≤ w16_.heap.size from hb.size)
  clear hb
  refine hK.out _ _ ⟨(blk_cell BK5.out 0).trans rfl, (blk_cell BK5.out 1).trans rfl, (blk_cell BK5.out 2).trans rfl, (blk_cell BK1.out 0).trans rfl, (blk_cell BK1.out 1).trans rfl, (blk_cell BK1.out 2).trans rfl⟩ (fun hHeld => ?_)
  clear hK K
  refine norm_ (a' := ?_) ?_ ?_
  rotate_left
  · show Act.put _ (some 30) _ = _
    simp only [Act.put, List.setIfInBounds_toArray, List.set_cons_zero, List.set_cons_succ, i64_w, i32_w]
    rfl
  refine pure_ (i := 4) (N := some 31) (v := ?_) (a' := ?_) #[true, true, true, true, true] rfl rfl (by kernel_rfl) (fun _ _ _ h => h) (Or.inl ⟨by rfl, ?_⟩) ?_ ?_
  rotate_left
  · intro w'
    go_simp
    with_reducible rfl
  rotate_left
  · simp only [Act.put, List.setIfInBounds_toArray, List.set_cons_zero, List.set_cons_succ, i64_w, i32_w]
    rfl
  refine done_ (by kernel_rfl) ?_
  clear T1
  have hz_BK1_0 : w16_.cell? ⟨g1_, 0, none⟩ = some (.int .i64 a0) := (blk_cell BK1.out 0).trans rfl
  have hz_BK1_1 : w16_.cell? ⟨g1_, 1, none⟩ = some (.int .i64 a1) := (blk_cell BK1.out 1).trans rfl
  have hz_BK1_2 : w16_.cell? ⟨g1_, 2, none⟩ = some (.slice A0 l0.length c0) := (blk_cell BK1.out 2).trans rfl
  have hz_BK4_0 : w16_.cell? ⟨g4_, 0, none⟩ = some (.int .i64 q0) := (blk_cell BK4.out 0).trans rfl
  have hz_BK4_1 : w16_.cell? ⟨g4_, 1, none⟩ = some (.slice A_W1 rb1.length c_W1) := (blk_cell BK4.out 1).trans rfl
  have hz_BK5_0 : w16_.cell? ⟨g5_, 0, none⟩ = some (.int .i64 a0) := (blk_cell BK5.out 0).trans rfl
  have hz_BK5_1 : w16_.cell? ⟨g5_, 1, none⟩ = some (.int .i64 a1) := (blk_cell BK5.out 1).trans rfl
  have hz_BK5_2 : w16_.cell? ⟨g5_, 2, none⟩ = some (.slice A_X0 l0.length c_X0) := (blk_cell BK5.out 2).trans rfl
  have hz_BK6_0 : w16_.cell? ⟨g6_, 0, none⟩ = some (.int .i64 q0) := (blk_cell BK6.out 0).trans rfl
  have hz_BK6_1 : w16_.cell? ⟨g6_, 1, none⟩ = some (.slice A_G1 rb1.length c_G1) := (blk_cell BK6.out 1).trans rfl
  go_wp2_with (first | (go_at_call 78; refine hold_here ?_))
  refine hold_go ?_
  refine (markProof_calls a0 a1 l0 1 H_o0.out n0 H_n0.out H_p0.out w _ w6_.heap.size w7_.heap.size A_X0 c_X0 ?s1 ?s2 ?s3 H_u0.out).mono ?_
  case s1 => exact (by repeat (first | (with_reducible first | exact HB.out | apply below_alloc | apply pw_below_drewN | apply below_drew1) | exact HB.out))
  case s2 => exact (by (with_reducible repeat (first | refine AR.alloc ?_ _ | refine AR.drewN ?_ _ | refine AR.drew ?_)); exact X0.out)
  case s3 => exact HC_X0.out
  rintro e w17_ ⟨rfl, ha, hb2, hk⟩
  clear X0
  have m_BK1 := Aside0.mk (blk_keptIn (by (with_reducible repeat (first | refine blk_drewN ?_ _ | refine blk_drew ?_ | refine blk_alloc ?_ _)); exact BK1.out) hk (by have := Z1.out; have := Z2.out; have := Z3.out; have := Z4.out; have := Z5.out; have := Z6.out; have := Z7.out; have := Z8.out; have := Z9.out; have := Z10.out; have := Z11.out; have := Z12.out; have := Z13.out; have := Z14.out; have := Z15.out; have := Z16.out; have := GE1.out; have := GL1.out; have := GE4.out; have := GL4.out; have := GE5.out; have := GL5.out; have := GE6.out; have := GL6.out; omega))
  have m_W1 := Aside0.mk (B_kept (by (with_reducible repeat (first | apply Kd.R_alloc | apply Kd.R_drewN | apply Kd.R_drew)); exact W1.out) hk (by have := Z1.out; have := Z2.out; have := Z3.out; have := Z4.out; have := Z5.out; have := Z6.out; have := Z7.out; have := Z8.out; have := Z9.out; have := Z10.out; have := Z11.out; have := Z12.out; have := Z13.out; have := Z14.out; have := Z15.out; have := Z16.out; have := GE1.out; have := GL1.out; have := GE4.out; have := GL4.out; have := GE5.out; have := GL5.out; have := GE6.out; have := GL6.out; omega))
  have m_BK4 := Aside0.mk (blk_keptIn (by (with_reducible repeat (first | refine blk_drewN ?_ _ | refine blk_drew ?_ | refine blk_alloc ?_ _)); exact BK4.out) hk (by have := Z1.out; have := Z2.out; have := Z3.out; have := Z4.out; have := Z5.out; have := Z6.out; have := Z7.out; have := Z8.out; have := Z9.out; have := Z10.out; have := Z11.out; have := Z12.out; have := Z13.out; have := Z14.out; have := Z15.out; have := Z16.out; have := GE1.out; have := GL1.out; have := GE4.out; have := GL4.out; have := GE5.out; have := GL5.out; have := GE6.out; have := GL6.out; omega))
  have m_BK5 := Aside0.mk (blk_keptIn (by (with_reducible repeat (first | refine blk_drewN ?_ _ | refine blk_drew ?_ | refine blk_alloc ?_ _)); exact BK5.out) hk (by have := Z1.out; have := Z2.out; have := Z3.out; have := Z4.out; have := Z5.out; have := Z6.out; have := Z7.out; have := Z8.out; have := Z9.out; have := Z10.out; have := Z11.out; have := Z12.out; have := Z13.out; have := Z14.out; have := Z15.out; have := Z16.out; have := GE1.out; have := GL1.out; have := GE4.out; have := GL4.out; have := GE5.out; have := GL5.out; have := GE6.out; have := GL6.out; omega))
  have m_G1 := Aside0.mk (B_kept (by (with_reducible repeat (first | apply Kd.R_alloc | apply Kd.R_drewN | apply Kd.R_drew)); exact G1.out) hk (by have := Z1.out; have := Z2.out; have := Z3.out; have := Z4.out; have := Z5.out; have := Z6.out; have := Z7.out; have := Z8.out; have := Z9.out; have := Z10.out; have := Z11.out; have := Z12.out; have := Z13.out; have := Z14.out; have := Z15.out; have := Z16.out; have := GE1.out; have := GL1.out; have := GE4.out; have := GL4.out; have := GE5.out; have := GL5.out; have := GE6.out; have := GL6.out; omega))
  have m_BK6 := Aside0.mk (blk_keptIn (by (with_reducible repeat (first | refine blk_drewN ?_ _ | refine blk_drew ?_ | refine blk_alloc ?_ _)); exact BK6.out) hk (by have := Z1.out; have := Z2.out; have := Z3.out; have := Z4.out; have := Z5.out; have := Z6.out; have := Z7.out; have := Z8.out; have := Z9.out; have := Z10.out; have := Z11.out; have := Z12.out; have := Z13.out; have := Z14.out; have := Z15.out; have := Z16.out; have := GE1.out; have := GL1.out; have := GE4.out; have := GL4.out; have := GE5.out; have := GL5.out; have := GE6.out; have := GL6.out; omega))
  have m_HB := Aside0.mk hb2
  clear hz_BK1_0 hz_BK1_1 hz_BK1_2 hz_BK4_0 hz_BK4_1 hz_BK5_0 hz_BK5_1 hz_BK5_2 hz_BK6_0 hz_BK6_1
  clear HB BK1 W1 BK4 BK5 G1 BK6
  have HB := m_HB
  have BK1 := m_BK1
  have W1 := m_W1
  have BK4 := m_BK4
  have BK5 := m_BK5
  have G1 := m_G1
  have BK6 := m_BK6
  clear m_HB m_BK1 m_W1 m_BK4 m_BK5 m_G1 m_BK6
  have Z17 := Aside0.mk (show w16_.heap.size ≤ w17_.heap.size from hk.1)
  clear ha
  clear hk hb2
  have hz_BK1_0 : w17_.cell? ⟨g1_, 0, none⟩ = some (.int .i64 a0) := (blk_cell BK1.out 0).trans rfl
  have hz_BK1_1 : w17_.cell? ⟨g1_, 1, none⟩ = some (.int .i64 a1) := (blk_cell BK1.out 1).trans rfl
  have hz_BK1_2 : w17_.cell? ⟨g1_, 2, none⟩ = some (.slice A0 l0.length c0) := (blk_cell BK1.out 2).trans rfl
  have hz_BK4_0 : w17_.cell? ⟨g4_, 0, none⟩ = some (.int .i64 q0) := (blk_cell BK4.out 0).trans rfl
  have hz_BK4_1 : w17_.cell? ⟨g4_, 1, none⟩ = some (.slice A_W1 rb1.length c_W1) := (blk_cell BK4.out 1).trans rfl
  have hz_BK5_0 : w17_.cell? ⟨g5_, 0, none⟩ = some (.int .i64 a0) := (blk_cell BK5.out 0).trans rfl
  have hz_BK5_1 : w17_.cell? ⟨g5_, 1, none⟩ = some (.int .i64 a1) := (blk_cell BK5.out 1).trans rfl
  have hz_BK5_2 : w17_.cell? ⟨g5_, 2, none⟩ = some (.slice A_X0 l0.length c_X0) := (blk_cell BK5.out 2).trans rfl
  have hz_BK6_0 : w17_.cell? ⟨g6_, 0, none⟩ = some (.int .i64 q0) := (blk_cell BK6.out 0).trans rfl
  have hz_BK6_1 : w17_.cell? ⟨g6_, 1, none⟩ = some (.slice A_G1 rb1.length c_G1) := (blk_cell BK6.out 1).trans rfl
  go_wp2_with (first | (go_at_call 18; refine hold_here ?_))
  refine hold_go ?_
  refine (laws_eqBytesResult.calls _ q0 A_G1 c_G1 rb1 q0 A_W1 c_W1 rb1 true _ ?s1 ?s2 ?s3 ?s4 H_eqr.out).mono ?_
  case s1 => exact (Kd.R_reads' (by (with_reducible repeat (first | apply Kd.R_alloc | apply Kd.R_drewN | apply Kd.R_drew)); exact G1.out)).2.2
  case s2 => exact (Kd.R_reads' G1.out).2.1
  case s3 => exact (Kd.R_reads' (by (with_reducible repeat (first | apply Kd.R_alloc | apply Kd.R_drewN | apply Kd.R_drew)); exact W1.out)).2.2
  case s4 => exact (Kd.R_reads' W1.out).2.1
  rintro e w18_ ⟨rfl, hb⟩
  have m_BK1 := Aside0.mk (blk_below (by (with_reducible repeat (first | refine blk_drewN ?_ _ | refine blk_drew ?_ | refine blk_alloc ?_ _)); exact BK1.out) hb)
  have m_W1 := Aside0.mk (Kd.R_below (by (with_reducible repeat (first | apply Kd.R_alloc | apply Kd.R_drewN | apply Kd.R_drew)); exact W1.out) hb)
  have m_BK4 := Aside0.mk (blk_below (by (with_reducible repeat (first | refine blk_drewN ?_ _ | refine blk_drew ?_ | refine blk_alloc ?_ _)); exact BK4.out) hb)
  have m_BK5 := Aside0.mk (blk_below (by (with_reducible repeat (first | refine blk_drewN ?_ _ | refine blk_drew ?_ | refine blk_alloc ?_ _)); exact BK5.out) hb)
  have m_G1 := Aside0.mk (Kd.R_below (by (with_reducible repeat (first | apply Kd.R_alloc | apply Kd.R_drewN | apply Kd.R_drew)); exact G1.out) hb)
  have m_BK6 := Aside0.mk (blk_below (by (with_reducible repeat (first | refine blk_drewN ?_ _ | refine blk_drew ?_ | refine blk_alloc ?_ _)); exact BK6.out) hb)
  have m_HB := Aside0.mk (below_step (by repeat (first | (with_reducible first | exact HB.out | apply below_alloc | apply pw_below_drewN | apply below_drew1) | exact HB.out)) hb)
  clear hz_BK1_0 hz_BK1_1 hz_BK1_2 hz_BK4_0 hz_BK4_1 hz_BK5_0 hz_BK5_1 hz_BK5_2 hz_BK6_0 hz_BK6_1
  clear HB BK1 W1 BK4 BK5 G1 BK6
  have HB := m_HB
  have BK1 := m_BK1
  have W1 := m_W1
  have BK4 := m_BK4
  have BK5 := m_BK5
  have G1 := m_G1
  have BK6 := m_BK6
  clear m_HB m_BK1 m_W1 m_BK4 m_BK5 m_G1 m_BK6
  have Z18 := Aside0.mk (show w17_.heap.size ≤ w18_.heap.size from hb.size)
  clear hb
  have hz_BK1_0 : w18_.cell? ⟨g1_, 0, none⟩ = some (.int .i64 a0) := (blk_cell BK1.out 0).trans rfl
  have hz_BK1_1 : w18_.cell? ⟨g1_, 1, none⟩ = some (.int .i64 a1) := (blk_cell BK1.out 1).trans rfl
  have hz_BK1_2 : w18_.cell? ⟨g1_, 2, none⟩ = some (.slice A0 l0.length c0) := (blk_cell BK1.out 2).trans rfl
  have hz_BK4_0 : w18_.cell? ⟨g4_, 0, none⟩ = some (.int .i64 q0) := (blk_cell BK4.out 0).trans rfl
  have hz_BK4_1 : w18_.cell? ⟨g4_, 1, none⟩ = some (.slice A_W1 rb1.length c_W1) := (blk_cell BK4.out 1).trans rfl
  have hz_BK5_0 : w18_.cell? ⟨g5_, 0, none⟩ = some (.int .i64 a0) := (blk_cell BK5.out 0).trans rfl
  have hz_BK5_1 : w18_.cell? ⟨g5_, 1, none⟩ = some (.int .i64 a1) := (blk_cell BK5.out 1).trans rfl
  have hz_BK5_2 : w18_.cell? ⟨g5_, 2, none⟩ = some (.slice A_X0 l0.length c_X0) := (blk_cell BK5.out 2).trans rfl
  have hz_BK6_0 : w18_.cell? ⟨g6_, 0, none⟩ = some (.int .i64 q0) := (blk_cell BK6.out 0).trans rfl
  have hz_BK6_1 : w18_.cell? ⟨g6_, 1, none⟩ = some (.slice A_G1 rb1.length c_G1) := (blk_cell BK6.out 1).trans rfl
  have XO := Aside0.mk G1.out
  go_wp2_with (first | (go_at_call 19; refine hold_here ?_))
  refine hold_go ?_
  refine (laws_markBytesResult.calls _ q0 (In w9_.heap.size w10_.heap.size) (.slice A_G1 rb1.length c_G1) rb1 1 _ _ w _ ?s1 ?s2 H_mr.out).mono ?_
  case s1 => exact (by repeat (first | (with_reducible first | exact HB.out | apply below_alloc | apply pw_below_drewN | apply below_drew1) | exact HB.out))
  case s2 => exact (by (with_reducible repeat (first | apply Kd.R_alloc | apply Kd.R_drewN | apply Kd.R_drew)); exact G1.out)
  rintro e w19_ ⟨rfl, hR, hb2, hk⟩
  clear G1
  have m_BK1 := Aside0.mk (blk_keptIn (by (with_reducible repeat (first | refine blk_drewN ?_ _ | refine blk_drew ?_ | refine blk_alloc ?_ _)); exact BK1.out) hk (by have := Z1.out; have := Z2.out; have := Z3.out; have := Z4.out; have := Z5.out; have := Z6.out; have := Z7.out; have := Z8.out; have := Z9.out; have := Z10.out; have := Z11.out; have := Z12.out; have := Z13.out; have := Z14.out; have := Z15.out; have := Z16.out; have := Z17.out; have := Z18.out; have := GE1.out; have := GL1.out; have := GE4.out; have := GL4.out; have := GE5.out; have := GL5.out; have := GE6.out; have := GL6.out; omega))
  have m_W1 := Aside0.mk (B_kept (by (with_reducible repeat (first | apply Kd.R_alloc | apply Kd.R_drewN | apply Kd.R_drew)); exact W1.out) hk (by have := Z1.out; have := Z2.out; have := Z3.out; have := Z4.out; have := Z5.out; have := Z6.out; have := Z7.out; have := Z8.out; have := Z9.out; have := Z10.out; have := Z11.out; have := Z12.out; have := Z13.out; have := Z14.out; have := Z15.out; have := Z16.out; have := Z17.out; have := Z18.out; have := GE1.out; have := GL1.out; have := GE4.out; have := GL4.out; have := GE5.out; have := GL5.out; have := GE6.out; have := GL6.out; omega))
  have m_BK4 := Aside0.mk (blk_keptIn (by (with_reducible repeat (first | refine blk_drewN ?_ _ | refine blk_drew ?_ | refine blk_alloc ?_ _)); exact BK4.out) hk (by have := Z1.out; have := Z2.out; have := Z3.out; have := Z4.out; have := Z5.out; have := Z6.out; have := Z7.out; have := Z8.out; have := Z9.out; have := Z10.out; have := Z11.out; have := Z12.out; have := Z13.out; have := Z14.out; have := Z15.out; have := Z16.out; have := Z17.out; have := Z18.out; have := GE1.out; have := GL1.out; have := GE4.out; have := GL4.out; have := GE5.out; have := GL5.out; have := GE6.out; have := GL6.out; omega))
  have m_BK5 := Aside0.mk (blk_keptIn (by (with_reducible repeat (first | refine blk_drewN ?_ _ | refine blk_drew ?_ | refine blk_alloc ?_ _)); exact BK5.out) hk (by have := Z1.out; have := Z2.out; have := Z3.out; have := Z4.out; have := Z5.out; have := Z6.out; have := Z7.out; have := Z8.out; have := Z9.out; have := Z10.out; have := Z11.out; have := Z12.out; have := Z13.out; have := Z14.out; have := Z15.out; have := Z16.out; have := Z17.out; have := Z18.out; have := GE1.out; have := GL1.out; have := GE4.out; have := GL4.out; have := GE5.out; have := GL5.out; have := GE6.out; have := GL6.out; omega))
  have m_BK6 := Aside0.mk (blk_keptIn (by (with_reducible repeat (first | refine blk_drewN ?_ _ | refine blk_drew ?_ | refine blk_alloc ?_ _)); exact BK6.out) hk (by have := Z1.out; have := Z2.out; have := Z3.out; have := Z4.out; have := Z5.out; have := Z6.out; have := Z7.out; have := Z8.out; have := Z9.out; have := Z10.out; have := Z11.out; have := Z12.out; have := Z13.out; have := Z14.out; have := Z15.out; have := Z16.out; have := Z17.out; have := Z18.out; have := GE1.out; have := GL1.out; have := GE4.out; have := GL4.out; have := GE5.out; have := GL5.out; have := GE6.out; have := GL6.out; omega))
  have m_HB := Aside0.mk hb2
  clear hz_BK1_0 hz_BK1_1 hz_BK1_2 hz_BK4_0 hz_BK4_1 hz_BK5_0 hz_BK5_1 hz_BK5_2 hz_BK6_0 hz_BK6_1
  clear HB BK1 W1 BK4 BK5 BK6
  have HB := m_HB
  have BK1 := m_BK1
  have W1 := m_W1
  have BK4 := m_BK4
  have BK5 := m_BK5
  have BK6 := m_BK6
  clear m_HB m_BK1 m_W1 m_BK4 m_BK5 m_BK6
  have Z19 := Aside0.mk (show w18_.heap.size ≤ w19_.heap.size from hk.1)
  have G1 := Aside0.mk (B_tight XO.out hR)
  clear hR XO
  clear hk hb2
  have hz_BK1_0 : w19_.cell? ⟨g1_, 0, none⟩ = some (.int .i64 a0) := (blk_cell BK1.out 0).trans rfl
  have hz_BK1_1 : w19_.cell? ⟨g1_, 1, none⟩ = some (.int .i64 a1) := (blk_cell BK1.out 1).trans rfl
  have hz_BK1_2 : w19_.cell? ⟨g1_, 2, none⟩ = some (.slice A0 l0.length c0) := (blk_cell BK1.out 2).trans rfl
  have hz_BK4_0 : w19_.cell? ⟨g4_, 0, none⟩ = some (.int .i64 q0) := (blk_cell BK4.out 0).trans rfl
  have hz_BK4_1 : w19_.cell? ⟨g4_, 1, none⟩ = some (.slice A_W1 rb1.length c_W1) := (blk_cell BK4.out 1).trans rfl
  have hz_BK5_0 : w19_.cell? ⟨g5_, 0, none⟩ = some (.int .i64 a0) := (blk_cell BK5.out 0).trans rfl
  have hz_BK5_1 : w19_.cell? ⟨g5_, 1, none⟩ = some (.int .i64 a1) := (blk_cell BK5.out 1).trans rfl
  have hz_BK5_2 : w19_.cell? ⟨g5_, 2, none⟩ = some (.slice A_X0 l0.length c_X0) := (blk_cell BK5.out 2).trans rfl
  have hz_BK6_0 : w19_.cell? ⟨g6_, 0, none⟩ = some (.int .i64 q0) := (blk_cell BK6.out 0).trans rfl
  have hz_BK6_1 : w19_.cell? ⟨g6_, 1, none⟩ = some (.slice A_G1 rb1.length c_G1) := (blk_cell BK6.out 1).trans rfl
  go_wp2_with (first | (go_at_call 20; refine hold_here ?_))
  refine hold_go ?_
  refine (heldBytesResult_len _ q0 A_G1 c_G1 mr rb1.length H_lr.out 1 _ _ ?s1 ?s2 H_hr.out).mono ?_
  case s1 => exact (Kd.R_reads' (by (with_reducible repeat (first | apply Kd.R_alloc | apply Kd.R_drewN | apply Kd.R_drew)); exact G1.out)).2.2
  case s2 => exact (Kd.R_reads' G1.out).2.1
  rintro e w20_ ⟨rfl, hb⟩
  have m_BK1 := Aside0.mk (blk_below (by (with_reducible repeat (first | refine blk_drewN ?_ _ | refine blk_drew ?_ | refine blk_alloc ?_ _)); exact BK1.out) hb)
  have m_W1 := Aside0.mk (Kd.R_below (by (with_reducible repeat (first | apply Kd.R_alloc | apply Kd.R_drewN | apply Kd.R_drew)); exact W1.out) hb)
  have m_BK4 := Aside0.mk (blk_below (by (with_reducible repeat (first | refine blk_drewN ?_ _ | refine blk_drew ?_ | refine blk_alloc ?_ _)); exact BK4.out) hb)
  have m_BK5 := Aside0.mk (blk_below (by (with_reducible repeat (first | refine blk_drewN ?_ _ | refine blk_drew ?_ | refine blk_alloc ?_ _)); exact BK5.out) hb)
  have m_BK6 := Aside0.mk (blk_below (by (with_reducible repeat (first | refine blk_drewN ?_ _ | refine blk_drew ?_ | refine blk_alloc ?_ _)); exact BK6.out) hb)
  have m_G1 := Aside0.mk (Kd.R_below (by (with_reducible repeat (first | apply Kd.R_alloc | apply Kd.R_drewN | apply Kd.R_drew)); exact G1.out) hb)
  have m_HB := Aside0.mk (below_step (by repeat (first | (with_reducible first | exact HB.out | apply below_alloc | apply pw_below_drewN | apply below_drew1) | exact HB.out)) hb)
  clear hz_BK1_0 hz_BK1_1 hz_BK1_2 hz_BK4_0 hz_BK4_1 hz_BK5_0 hz_BK5_1 hz_BK5_2 hz_BK6_0 hz_BK6_1
  clear HB BK1 W1 BK4 BK5 BK6 G1
  have HB := m_HB
  have BK1 := m_BK1
  have W1 := m_W1
  have BK4 := m_BK4
  have BK5 := m_BK5
  have BK6 := m_BK6
  have G1 := m_G1
  clear m_HB m_BK1 m_W1 m_BK4 m_BK5 m_BK6 m_G1
  have Z20 := Aside0.mk (show w19_.heap.size ≤ w20_.heap.size from hb.size)
  clear hb
  have hz_BK1_0 : w20_.cell? ⟨g1_, 0, none⟩ = some (.int .i64 a0) := (blk_cell BK1.out 0).trans rfl
  have hz_BK1_1 : w20_.cell? ⟨g1_, 1, none⟩ = some (.int .i64 a1) := (blk_cell BK1.out 1).trans rfl
  have hz_BK1_2 : w20_.cell? ⟨g1_, 2, none⟩ = some (.slice A0 l0.length c0) := (blk_cell BK1.out 2).trans rfl
  have hz_BK4_0 : w20_.cell? ⟨g4_, 0, none⟩ = some (.int .i64 q0) := (blk_cell BK4.out 0).trans rfl
  have hz_BK4_1 : w20_.cell? ⟨g4_, 1, none⟩ = some (.slice A_W1 rb1.length c_W1) := (blk_cell BK4.out 1).trans rfl
  have hz_BK5_0 : w20_.cell? ⟨g5_, 0, none⟩ = some (.int .i64 a0) := (blk_cell BK5.out 0).trans rfl
  have hz_BK5_1 : w20_.cell? ⟨g5_, 1, none⟩ = some (.int .i64 a1) := (blk_cell BK5.out 1).trans rfl
  have hz_BK5_2 : w20_.cell? ⟨g5_, 2, none⟩ = some (.slice A_X0 l0.length c_X0) := (blk_cell BK5.out 2).trans rfl
  have hz_BK6_0 : w20_.cell? ⟨g6_, 0, none⟩ = some (.int .i64 q0) := (blk_cell BK6.out 0).trans rfl
  have hz_BK6_1 : w20_.cell? ⟨g6_, 1, none⟩ = some (.slice A_G1 rb1.length c_G1) := (blk_cell BK6.out 1).trans rfl
  go_wp2_with (first | (go_at_call 75; refine hold_here ?_))
  refine hold_go ?_
  refine (laws_toProof.calls _ a0 a1 A0 c0 l0 a0 a1 l0 _ ?s1 ?s2 H_to.out).mono ?_
  case s1 => exact Kd.C_below HR0.out (by repeat (first | (with_reducible first | exact HB.out | apply below_alloc | apply pw_below_drewN | apply below_drew1) | exact HB.out))
  case s2 => exact HC0.out
  rintro e w21_ ⟨v, rfl, ho, hb⟩
  have m_BK1 := Aside0.mk (blk_below (by (with_reducible repeat (first | refine blk_drewN ?_ _ | refine blk_drew ?_ | refine blk_alloc ?_ _)); exact BK1.out) hb)
  have m_W1 := Aside0.mk (Kd.R_below (by (with_reducible repeat (first | apply Kd.R_alloc | apply Kd.R_drewN | apply Kd.R_drew)); exact W1.out) hb)
  have m_BK4 := Aside0.mk (blk_below (by (with_reducible repeat (first | refine blk_drewN ?_ _ | refine blk_drew ?_ | refine blk_alloc ?_ _)); exact BK4.out) hb)
  have m_BK5 := Aside0.mk (blk_below (by (with_reducible repeat (first | refine blk_drewN ?_ _ | refine blk_drew ?_ | refine blk_alloc ?_ _)); exact BK5.out) hb)
  have m_BK6 := Aside0.mk (blk_below (by (with_reducible repeat (first | refine blk_drewN ?_ _ | refine blk_drew ?_ | refine blk_alloc ?_ _)); exact BK6.out) hb)
  have m_G1 := Aside0.mk (Kd.R_below (by (with_reducible repeat (first | apply Kd.R_alloc | apply Kd.R_drewN | apply Kd.R_drew)); exact G1.out) hb)
  have m_HB := Aside0.mk (below_step (by repeat (first | (with_reducible first | exact HB.out | apply below_alloc | apply pw_below_drewN | apply below_drew1) | exact HB.out)) hb)
  clear hz_BK1_0 hz_BK1_1 hz_BK1_2 hz_BK4_0 hz_BK4_1 hz_BK5_0 hz_BK5_1 hz_BK5_2 hz_BK6_0 hz_BK6_1
  clear HB BK1 W1 BK4 BK5 BK6 G1
  have HB := m_HB
  have BK1 := m_BK1
  have W1 := m_W1
  have BK4 := m_BK4
  have BK5 := m_BK5
  have BK6 := m_BK6
  have G1 := m_G1
  clear m_HB m_BK1 m_W1 m_BK4 m_BK5 m_BK6 m_G1
  have Z21 := Aside0.mk (show w20_.heap.size ≤ w21_.heap.size from hb.size)
  obtain ⟨A_T2, c_T2, ev_, hc_T2, hA_T2⟩ := AR_of_S (base := w.heap.size) ho (show w.heap.size ≤ w20_.heap.size from (by have := Z1.out; have := Z2.out; have := Z3.out; have := Z4.out; have := Z5.out; have := Z6.out; have := Z7.out; have := Z8.out; have := Z9.out; have := Z10.out; have := Z11.out; have := Z12.out; have := Z13.out; have := Z14.out; have := Z15.out; have := Z16.out; have := Z17.out; have := Z18.out; have := Z19.out; have := Z20.out; have := Z21.out; have := GE1.out; have := GL1.out; have := GE4.out; have := GL4.out; have := GE5.out; have := GL5.out; have := GE6.out; have := GL6.out; omega))
  subst ev_
  have HC_T2 := Aside0.mk hc_T2
  have T2 := Aside0.mk (show AR w.heap.size w21_ w20_.heap.size w21_.heap.size A_T2 l0 from hA_T2)
  clear hc_T2 hA_T2 ho
  clear hb
  have hz_BK1_0 : w21_.cell? ⟨g1_, 0, none⟩ = some (.int .i64 a0) := (blk_cell BK1.out 0).trans rfl
  have hz_BK1_1 : w21_.cell? ⟨g1_, 1, none⟩ = some (.int .i64 a1) := (blk_cell BK1.out 1).trans rfl
  have hz_BK1_2 : w21_.cell? ⟨g1_, 2, none⟩ = some (.slice A0 l0.length c0) := (blk_cell BK1.out 2).trans rfl
  have hz_BK4_0 : w21_.cell? ⟨g4_, 0, none⟩ = some (.int .i64 q0) := (blk_cell BK4.out 0).trans rfl
  have hz_BK4_1 : w21_.cell? ⟨g4_, 1, none⟩ = some (.slice A_W1 rb1.length c_W1) := (blk_cell BK4.out 1).trans rfl
  have hz_BK5_0 : w21_.cell? ⟨g5_, 0, none⟩ = some (.int .i64 a0) := (blk_cell BK5.out 0).trans rfl
  have hz_BK5_1 : w21_.cell? ⟨g5_, 1, none⟩ = some (.int .i64 a1) := (blk_cell BK5.out 1).trans rfl
  have hz_BK5_2 : w21_.cell? ⟨g5_, 2, none⟩ = some (.slice A_X0 l0.length c_X0) := (blk_cell BK5.out 2).trans rfl
  have hz_BK6_0 : w21_.cell? ⟨g6_, 0, none⟩ = some (.int .i64 q0) := (blk_cell BK6.out 0).trans rfl
  have hz_BK6_1 : w21_.cell? ⟨g6_, 1, none⟩ = some (.slice A_G1 rb1.length c_G1) := (blk_cell BK6.out 1).trans rfl
  go_wp2_with (first | (go_at_call 76; refine hold_here ?_))
  refine hold_go ?_
  refine (impl_PackProof.calls _ a0 a1 A_T2 c_T2 l0 q0 rb1 _ ?s1 ?s2 H_impl.out).mono ?_
  case s1 => exact Kd.F_now (AR.foot (by (with_reducible repeat (first | refine AR.alloc ?_ _ | refine AR.drewN ?_ _ | refine AR.drew ?_)); exact T2.out))
  case s2 => exact HC_T2.out
  rintro e w22_ ⟨v1, rfl, ho1, hb⟩
  have m_BK1 := Aside0.mk (blk_below (by (with_reducible repeat (first | refine blk_drewN ?_ _ | refine blk_drew ?_ | refine blk_alloc ?_ _)); exact BK1.out) hb)
  have m_W1 := Aside0.mk (Kd.R_below (by (with_reducible repeat (first | apply Kd.R_alloc | apply Kd.R_drewN | apply Kd.R_drew)); exact W1.out) hb)
  have m_BK4 := Aside0.mk (blk_below (by (with_reducible repeat (first | refine blk_drewN ?_ _ | refine blk_drew ?_ | refine blk_alloc ?_ _)); exact BK4.out) hb)
  have m_BK5 := Aside0.mk (blk_below (by (with_reducible repeat (first | refine blk_drewN ?_ _ | refine blk_drew ?_ | refine blk_alloc ?_ _)); exact BK5.out) hb)
  have m_BK6 := Aside0.mk (blk_below (by (with_reducible repeat (first | refine blk_drewN ?_ _ | refine blk_drew ?_ | refine blk_alloc ?_ _)); exact BK6.out) hb)
  have m_G1 := Aside0.mk (Kd.R_below (by (with_reducible repeat (first | apply Kd.R_alloc | apply Kd.R_drewN | apply Kd.R_drew)); exact G1.out) hb)
  have m_T2 := Aside0.mk (AR.below (by (with_reducible repeat (first | refine AR.alloc ?_ _ | refine AR.drewN ?_ _ | refine AR.drew ?_)); exact T2.out) hb)
  have m_HB := Aside0.mk (below_step (by repeat (first | (with_reducible first | exact HB.out | apply below_alloc | apply pw_below_drewN | apply below_drew1) | exact HB.out)) hb)
  clear hz_BK1_0 hz_BK1_1 hz_BK1_2 hz_BK4_0 hz_BK4_1 hz_BK5_0 hz_BK5_1 hz_BK5_2 hz_BK6_0 hz_BK6_1
  clear HB BK1 W1 BK4 BK5 BK6 G1 T2
  have HB := m_HB
  have BK1 := m_BK1
  have W1 := m_W1
  have BK4 := m_BK4
  have BK5 := m_BK5
  have BK6 := m_BK6
  have G1 := m_G1
  have T2 := m_T2
  clear m_HB m_BK1 m_W1 m_BK4 m_BK5 m_BK6 m_G1 m_T2
  have Z22 := Aside0.mk (show w21_.heap.size ≤ w22_.heap.size from hb.size)
  obtain ⟨A_H1, c_H1, ev_, hA_H1⟩ := B_of_R (base := w.heap.size) ho1 (show w.heap.size ≤ w21_.heap.size from (by have := Z1.out; have := Z2.out; have := Z3.out; have := Z4.out; have := Z5.out; have := Z6.out; have := Z7.out; have := Z8.out; have := Z9.out; have := Z10.out; have := Z11.out; have := Z12.out; have := Z13.out; have := Z14.out; have := Z15.out; have := Z16.out; have := Z17.out; have := Z18.out; have := Z19.out; have := Z20.out; have := Z21.out; have := Z22.out; have := GE1.out; have := GL1.out; have := GE4.out; have := GL4.out; have := GE5.out; have := GL5.out; have := GE6.out; have := GL6.out; omega))
  subst ev_
  have H1 := Aside0.mk (show Kd.R (Kd.int .u8) 5 w22_ w.heap.size (In w21_.heap.size w22_.heap.size) (.slice A_H1 rb1.length c_H1) rb1 from hA_H1)
  clear hA_H1 ho1
  clear hb
  have hz_BK1_0 : w22_.cell? ⟨g1_, 0, none⟩ = some (.int .i64 a0) := (blk_cell BK1.out 0).trans rfl
  have hz_BK1_1 : w22_.cell? ⟨g1_, 1, none⟩ = some (.int .i64 a1) := (blk_cell BK1.out 1).trans rfl
  have hz_BK1_2 : w22_.cell? ⟨g1_, 2, none⟩ = some (.slice A0 l0.length c0) := (blk_cell BK1.out 2).trans rfl
  have hz_BK4_0 : w22_.cell? ⟨g4_, 0, none⟩ = some (.int .i64 q0) := (blk_cell BK4.out 0).trans rfl
  have hz_BK4_1 : w22_.cell? ⟨g4_, 1, none⟩ = some (.slice A_W1 rb1.length c_W1) := (blk_cell BK4.out 1).trans rfl
  have hz_BK5_0 : w22_.cell? ⟨g5_, 0, none⟩ = some (.int .i64 a0) := (blk_cell BK5.out 0).trans rfl
  have hz_BK5_1 : w22_.cell? ⟨g5_, 1, none⟩ = some (.int .i64 a1) := (blk_cell BK5.out 1).trans rfl
  have hz_BK5_2 : w22_.cell? ⟨g5_, 2, none⟩ = some (.slice A_X0 l0.length c_X0) := (blk_cell BK5.out 2).trans rfl
  have hz_BK6_0 : w22_.cell? ⟨g6_, 0, none⟩ = some (.int .i64 q0) := (blk_cell BK6.out 0).trans rfl
  have hz_BK6_1 : w22_.cell? ⟨g6_, 1, none⟩ = some (.slice A_G1 rb1.length c_G1) := (blk_cell BK6.out 1).trans rfl
  go_wp2_with (first | ((with_reducible refine gate_dst (N := 10) rfl ?_); refine hold_here ?_))
  refine hold_go ?_
  refine box_event (N := 10) (cs := #[.int .i64 0, .slice none 0 0]) (t := 24) ?hgb rfl ?hrb ?_
  case hgb => rfl
  case hrb => first | (go_simp; done) | (go_simp; rfl)
  intro g10_ hg w23_ hbox hb
  have m_BK1 := Aside0.mk (blk_below (by (with_reducible repeat (first | refine blk_drewN ?_ _ | refine blk_drew ?_ | refine blk_alloc ?_ _)); exact BK1.out) hb)
  have m_W1 := Aside0.mk (Kd.R_below (by (with_reducible repeat (first | apply Kd.R_alloc | apply Kd.R_drewN | apply Kd.R_drew)); exact W1.out) hb)
  have m_BK4 := Aside0.mk (blk_below (by (with_reducible repeat (first | refine blk_drewN ?_ _ | refine blk_drew ?_ | refine blk_alloc ?_ _)); exact BK4.out) hb)
  have m_BK5 := Aside0.mk (blk_below (by (with_reducible repeat (first | refine blk_drewN ?_ _ | refine blk_drew ?_ | refine blk_alloc ?_ _)); exact BK5.out) hb)
  have m_BK6 := Aside0.mk (blk_below (by (with_reducible repeat (first | refine blk_drewN ?_ _ | refine blk_drew ?_ | refine blk_alloc ?_ _)); exact BK6.out) hb)
  have m_G1 := Aside0.mk (Kd.R_below (by (with_reducible repeat (first | apply Kd.R_alloc | apply Kd.R_drewN | apply Kd.R_drew)); exact G1.out) hb)
  have m_T2 := Aside0.mk (AR.below (by (with_reducible repeat (first | refine AR.alloc ?_ _ | refine AR.drewN ?_ _ | refine AR.drew ?_)); exact T2.out) hb)
  have m_H1 := Aside0.mk (Kd.R_below (by (with_reducible repeat (first | apply Kd.R_alloc | apply Kd.R_drewN | apply Kd.R_drew)); exact H1.out) hb)
  have m_HB := Aside0.mk (below_step (by repeat (first | (with_reducible first | exact HB.out | apply below_alloc | apply pw_below_drewN | apply below_drew1) | exact HB.out)) hb)
  clear hz_BK1_0 hz_BK1_1 hz_BK1_2 hz_BK4_0 hz_BK4_1 hz_BK5_0 hz_BK5_1 hz_BK5_2 hz_BK6_0 hz_BK6_1
  clear HB BK1 W1 BK4 BK5 BK6 G1 T2 H1
  have HB := m_HB
  have BK1 := m_BK1
  have W1 := m_W1
  have BK4 := m_BK4
  have BK5 := m_BK5
  have BK6 := m_BK6
  have G1 := m_G1
  have T2 := m_T2
  have H1 := m_H1
  clear m_HB m_BK1 m_W1 m_BK4 m_BK5 m_BK6 m_G1 m_T2 m_H1
  have Z23 := Aside0.mk (show w22_.heap.size ≤ w23_.heap.size from hb.size)
  have BK10 := Aside0.mk hbox
  have GE10 := Aside0.mk (show g10_ = w22_.heap.size from hg)
  have GL10 := Aside0.mk (show g10_ < w23_.heap.size from blk_lt hbox)
  clear hb hbox hg
  go_wp2_with (first | ((with_reducible refine gate_store (t := 24) (p := 10) (v := .tmp 56) rfl ?_); refine hold_here ?_))
  refine hold_go ?_
  refine row_store rfl 24 (.tmp 10) (.tmp 56) rfl g10_ #[.int .i64 q0, .slice A_H1 rb1.length c_H1] rfl rfl 24 _ (by (with_reducible repeat (first | refine blk_drewN ?_ _ | refine blk_drew ?_ | refine blk_alloc ?_ _)); exact BK10.out) ?hi ?ho ?h1 rfl (by repeat (first | (with_reducible first | exact HB.out | apply below_alloc | apply pw_below_drewN | apply below_drew1) | exact HB.out)) (show w.heap.size ≤ g10_ from (by have := Z1.out; have := Z2.out; have := Z3.out; have := Z4.out; have := Z5.out; have := Z6.out; have := Z7.out; have := Z8.out; have := Z9.out; have := Z10.out; have := Z11.out; have := Z12.out; have := Z13.out; have := Z14.out; have := Z15.out; have := Z16.out; have := Z17.out; have := Z18.out; have := Z19.out; have := Z20.out; have := Z21.out; have := Z22.out; have := Z23.out; have := GE1.out; have := GL1.out; have := GE4.out; have := GL4.out; have := GE5.out; have := GL5.out; have := GE6.out; have := GL6.out; have := GE10.out; have := GL10.out; omega)) ?_
  case hi => kernel_rfl
  case ho => rfl
  case h1 => first | rfl | (simp [Value.oneCell']; done) | (go_simp; done)
  intro w24_ bo hk hb2
  clear BK10
  have m_BK1 := Aside0.mk (blk_keptIn (by (with_reducible repeat (first | refine blk_drewN ?_ _ | refine blk_drew ?_ | refine blk_alloc ?_ _)); exact BK1.out) hk (by have := Z1.out; have := Z2.out; have := Z3.out; have := Z4.out; have := Z5.out; have := Z6.out; have := Z7.out; have := Z8.out; have := Z9.out; have := Z10.out; have := Z11.out; have := Z12.out; have := Z13.out; have := Z14.out; have := Z15.out; have := Z16.out; have := Z17.out; have := Z18.out; have := Z19.out; have := Z20.out; have := Z21.out; have := Z22.out; have := Z23.out; have := GE1.out; have := GL1.out; have := GE4.out; have := GL4.out; have := GE5.out; have := GL5.out; have := GE6.out; have := GL6.out; have := GE10.out; have := GL10.out; omega))
  have m_W1 := Aside0.mk (B_kept (by (with_reducible repeat (first | apply Kd.R_alloc | apply Kd.R_drewN | apply Kd.R_drew)); exact W1.out) hk (by have := Z1.out; have := Z2.out; have := Z3.out; have := Z4.out; have := Z5.out; have := Z6.out; have := Z7.out; have := Z8.out; have := Z9.out; have := Z10.out; have := Z11.out; have := Z12.out; have := Z13.out; have := Z14.out; have := Z15.out; have := Z16.out; have := Z17.out; have := Z18.out; have := Z19.out; have := Z20.out; have := Z21.out; have := Z22.out; have := Z23.out; have := GE1.out; have := GL1.out; have := GE4.out; have := GL4.out; have := GE5.out; have := GL5.out; have := GE6.out; have := GL6.out; have := GE10.out; have := GL10.out; omega))
  have m_BK4 := Aside0.mk (blk_keptIn (by (with_reducible repeat (first | refine blk_drewN ?_ _ | refine blk_drew ?_ | refine blk_alloc ?_ _)); exact BK4.out) hk (by have := Z1.out; have := Z2.out; have := Z3.out; have := Z4.out; have := Z5.out; have := Z6.out; have := Z7.out; have := Z8.out; have := Z9.out; have := Z10.out; have := Z11.out; have := Z12.out; have := Z13.out; have := Z14.out; have := Z15.out; have := Z16.out; have := Z17.out; have := Z18.out; have := Z19.out; have := Z20.out; have := Z21.out; have := Z22.out; have := Z23.out; have := GE1.out; have := GL1.out; have := GE4.out; have := GL4.out; have := GE5.out; have := GL5.out; have := GE6.out; have := GL6.out; have := GE10.out; have := GL10.out; omega))
  have m_BK5 := Aside0.mk (blk_keptIn (by (with_reducible repeat (first | refine blk_drewN ?_ _ | refine blk_drew ?_ | refine blk_alloc ?_ _)); exact BK5.out) hk (by have := Z1.out; have := Z2.out; have := Z3.out; have := Z4.out; have := Z5.out; have := Z6.out; have := Z7.out; have := Z8.out; have := Z9.out; have := Z10.out; have := Z11.out; have := Z12.out; have := Z13.out; have := Z14.out; have := Z15.out; have := Z16.out; have := Z17.out; have := Z18.out; have := Z19.out; have := Z20.out; have := Z21.out; have := Z22.out; have := Z23.out; have := GE1.out; have := GL1.out; have := GE4.out; have := GL4.out; have := GE5.out; have := GL5.out; have := GE6.out; have := GL6.out; have := GE10.out; have := GL10.out; omega))
  have m_BK6 := Aside0.mk (blk_keptIn (by (with_reducible repeat (first | refine blk_drewN ?_ _ | refine blk_drew ?_ | refine blk_alloc ?_ _)); exact BK6.out) hk (by have := Z1.out; have := Z2.out; have := Z3.out; have := Z4.out; have := Z5.out; have := Z6.out; have := Z7.out; have := Z8.out; have := Z9.out; have := Z10.out; have := Z11.out; have := Z12.out; have := Z13.out; have := Z14.out; have := Z15.out; have := Z16.out; have := Z17.out; have := Z18.out; have := Z19.out; have := Z20.out; have := Z21.out; have := Z22.out; have := Z23.out; have := GE1.out; have := GL1.out; have := GE4.out; have := GL4.out; have := GE5.out; have := GL5.out; have := GE6.out; have := GL6.out; have := GE10.out; have := GL10.out; omega))
  have m_G1 := Aside0.mk (B_kept (by (with_reducible repeat (first | apply Kd.R_alloc | apply Kd.R_drewN | apply Kd.R_drew)); exact G1.out) hk (by have := Z1.out; have := Z2.out; have := Z3.out; have := Z4.out; have := Z5.out; have := Z6.out; have := Z7.out; have := Z8.out; have := Z9.out; have := Z10.out; have := Z11.out; have := Z12.out; have := Z13.out; have := Z14.out; have := Z15.out; have := Z16.out; have := Z17.out; have := Z18.out; have := Z19.out; have := Z20.out; have := Z21.out; have := Z22.out; have := Z23.out; have := GE1.out; have := GL1.out; have := GE4.out; have := GL4.out; have := GE5.out; have := GL5.out; have := GE6.out; have := GL6.out; have := GE10.out; have := GL10.out; omega))
  have m_T2 := Aside0.mk (AR.kept (by (with_reducible repeat (first | refine AR.alloc ?_ _ | refine AR.drewN ?_ _ | refine AR.drew ?_)); exact T2.out) hk (by have := Z1.out; have := Z2.out; have := Z3.out; have := Z4.out; have := Z5.out; have := Z6.out; have := Z7.out; have := Z8.out; have := Z9.out; have := Z10.out; have := Z11.out; have := Z12.out; have := Z13.out; have := Z14.out; have := Z15.out; have := Z16.out; have := Z17.out; have := Z18.out; have := Z19.out; have := Z20.out; have := Z21.out; have := Z22.out; have := Z23.out; have := GE1.out; have := GL1.out; have := GE4.out; have := GL4.out; have := GE5.out; have := GL5.out; have := GE6.out; have := GL6.out; have := GE10.out; have := GL10.out; omega))
  have m_H1 := Aside0.mk (B_kept (by (with_reducible repeat (first | apply Kd.R_alloc | apply Kd.R_drewN | apply Kd.R_drew)); exact H1.out) hk (by have := Z1.out; have := Z2.out; have := Z3.out; have := Z4.out; have := Z5.out; have := Z6.out; have := Z7.out; have := Z8.out; have := Z9.out; have := Z10.out; have := Z11.out; have := Z12.out; have := Z13.out; have := Z14.out; have := Z15.out; have := Z16.out; have := Z17.out; have := Z18.out; have := Z19.out; have := Z20.out; have := Z21.out; have := Z22.out; have := Z23.out; have := GE1.out; have := GL1.out; have := GE4.out; have := GL4.out; have := GE5.out; have := GL5.out; have := GE6.out; have := GL6.out; have := GE10.out; have := GL10.out; omega))
  have m_HB := Aside0.mk hb2
  clear HB BK1 W1 BK4 BK5 BK6 G1 T2 H1
  have HB := m_HB
  have BK1 := m_BK1
  have W1 := m_W1
  have BK4 := m_BK4
  have BK5 := m_BK5
  have BK6 := m_BK6
  have G1 := m_G1
  have T2 := m_T2
  have H1 := m_H1
  clear m_HB m_BK1 m_W1 m_BK4 m_BK5 m_BK6 m_G1 m_T2 m_H1
  have Z24 := Aside0.mk (show w23_.heap.size ≤ w24_.heap.size from hk.1)
  have BK10 := Aside0.mk bo
  clear bo hk hb2
  have hz_BK1_0 : w24_.cell? ⟨g1_, 0, none⟩ = some (.int .i64 a0) := (blk_cell BK1.out 0).trans rfl
  have hz_BK1_1 : w24_.cell? ⟨g1_, 1, none⟩ = some (.int .i64 a1) := (blk_cell BK1.out 1).trans rfl
  have hz_BK1_2 : w24_.cell? ⟨g1_, 2, none⟩ = some (.slice A0 l0.length c0) := (blk_cell BK1.out 2).trans rfl
  have hz_BK4_0 : w24_.cell? ⟨g4_, 0, none⟩ = some (.int .i64 q0) := (blk_cell BK4.out 0).trans rfl
  have hz_BK4_1 : w24_.cell? ⟨g4_, 1, none⟩ = some (.slice A_W1 rb1.length c_W1) := (blk_cell BK4.out 1).trans rfl
  have hz_BK5_0 : w24_.cell? ⟨g5_, 0, none⟩ = some (.int .i64 a0) := (blk_cell BK5.out 0).trans rfl
  have hz_BK5_1 : w24_.cell? ⟨g5_, 1, none⟩ = some (.int .i64 a1) := (blk_cell BK5.out 1).trans rfl
  have hz_BK5_2 : w24_.cell? ⟨g5_, 2, none⟩ = some (.slice A_X0 l0.length c_X0) := (blk_cell BK5.out 2).trans rfl
  have hz_BK6_0 : w24_.cell? ⟨g6_, 0, none⟩ = some (.int .i64 q0) := (blk_cell BK6.out 0).trans rfl
  have hz_BK6_1 : w24_.cell? ⟨g6_, 1, none⟩ = some (.slice A_G1 rb1.length c_G1) := (blk_cell BK6.out 1).trans rfl
  have hz_BK10_0 : w24_.cell? ⟨g10_, 0, none⟩ = some (.int .i64 q0) := (blk_cell BK10.out 0).trans rfl
  have hz_BK10_1 : w24_.cell? ⟨g10_, 1, none⟩ = some (.slice A_H1 rb1.length c_H1) := (blk_cell BK10.out 1).trans rfl
  go_wp2_with (first | (go_at_call 18; refine hold_here ?_))
  refine hold_go ?_
  refine (laws_eqBytesResult.calls _ q0 A_H1 c_H1 rb1 q0 A_W1 c_W1 rb1 true _ ?s1 ?s2 ?s3 ?s4 H_eqr.out).mono ?_
  case s1 => exact (Kd.R_reads' (by (with_reducible repeat (first | apply Kd.R_alloc | apply Kd.R_drewN | apply Kd.R_drew)); exact H1.out)).2.2
  case s2 => exact (Kd.R_reads' H1.out).2.1
  case s3 => exact (Kd.R_reads' (by (with_reducible repeat (first | apply Kd.R_alloc | apply Kd.R_drewN | apply Kd.R_drew)); exact W1.out)).2.2
  case s4 => exact (Kd.R_reads' W1.out).2.1
  rintro e w25_ ⟨rfl, hb⟩
  have m_BK1 := Aside0.mk (blk_below (by (with_reducible repeat (first | refine blk_drewN ?_ _ | refine blk_drew ?_ | refine blk_alloc ?_ _)); exact BK1.out) hb)
  have m_W1 := Aside0.mk (Kd.R_below (by (with_reducible repeat (first | apply Kd.R_alloc | apply Kd.R_drewN | apply Kd.R_drew)); exact W1.out) hb)
  have m_BK4 := Aside0.mk (blk_below (by (with_reducible repeat (first | refine blk_drewN ?_ _ | refine blk_drew ?_ | refine blk_alloc ?_ _)); exact BK4.out) hb)
  have m_BK5 := Aside0.mk (blk_below (by (with_reducible repeat (first | refine blk_drewN ?_ _ | refine blk_drew ?_ | refine blk_alloc ?_ _)); exact BK5.out) hb)
  have m_BK6 := Aside0.mk (blk_below (by (with_reducible repeat (first | refine blk_drewN ?_ _ | refine blk_drew ?_ | refine blk_alloc ?_ _)); exact BK6.out) hb)
  have m_G1 := Aside0.mk (Kd.R_below (by (with_reducible repeat (first | apply Kd.R_alloc | apply Kd.R_drewN | apply Kd.R_drew)); exact G1.out) hb)
  have m_T2 := Aside0.mk (AR.below (by (with_reducible repeat (first | refine AR.alloc ?_ _ | refine AR.drewN ?_ _ | refine AR.drew ?_)); exact T2.out) hb)
  have m_H1 := Aside0.mk (Kd.R_below (by (with_reducible repeat (first | apply Kd.R_alloc | apply Kd.R_drewN | apply Kd.R_drew)); exact H1.out) hb)
  have m_BK10 := Aside0.mk (blk_below (by (with_reducible repeat (first | refine blk_drewN ?_ _ | refine blk_drew ?_ | refine blk_alloc ?_ _)); exact BK10.out) hb)
  have m_HB := Aside0.mk (below_step (by repeat (first | (with_reducible first | exact HB.out | apply below_alloc | apply pw_below_drewN | apply below_drew1) | exact HB.out)) hb)
  clear hz_BK1_0 hz_BK1_1 hz_BK1_2 hz_BK4_0 hz_BK4_1 hz_BK5_0 hz_BK5_1 hz_BK5_2 hz_BK6_0 hz_BK6_1 hz_BK10_0 hz_BK10_1
  clear HB BK1 W1 BK4 BK5 BK6 G1 T2 H1 BK10
  have HB := m_HB
  have BK1 := m_BK1
  have W1 := m_W1
  have BK4 := m_BK4
  have BK5 := m_BK5
  have BK6 := m_BK6
  have G1 := m_G1
  have T2 := m_T2
  have H1 := m_H1
  have BK10 := m_BK10
  clear m_HB m_BK1 m_W1 m_BK4 m_BK5 m_BK6 m_G1 m_T2 m_H1 m_BK10
  have Z25 := Aside0.mk (show w24_.heap.size ≤ w25_.heap.size from hb.size)
  clear hb
  have hz_BK1_0 : w25_.cell? ⟨g1_, 0, none⟩ = some (.int .i64 a0) := (blk_cell BK1.out 0).trans rfl
  have hz_BK1_1 : w25_.cell? ⟨g1_, 1, none⟩ = some (.int .i64 a1) := (blk_cell BK1.out 1).trans rfl
  have hz_BK1_2 : w25_.cell? ⟨g1_, 2, none⟩ = some (.slice A0 l0.length c0) := (blk_cell BK1.out 2).trans rfl
  have hz_BK4_0 : w25_.cell? ⟨g4_, 0, none⟩ = some (.int .i64 q0) := (blk_cell BK4.out 0).trans rfl
  have hz_BK4_1 : w25_.cell? ⟨g4_, 1, none⟩ = some (.slice A_W1 rb1.length c_W1) := (blk_cell BK4.out 1).trans rfl
  have hz_BK5_0 : w25_.cell? ⟨g5_, 0, none⟩ = some (.int .i64 a0) := (blk_cell BK5.out 0).trans rfl
  have hz_BK5_1 : w25_.cell? ⟨g5_, 1, none⟩ = some (.int .i64 a1) := (blk_cell BK5.out 1).trans rfl
  have hz_BK5_2 : w25_.cell? ⟨g5_, 2, none⟩ = some (.slice A_X0 l0.length c_X0) := (blk_cell BK5.out 2).trans rfl
  have hz_BK6_0 : w25_.cell? ⟨g6_, 0, none⟩ = some (.int .i64 q0) := (blk_cell BK6.out 0).trans rfl
  have hz_BK6_1 : w25_.cell? ⟨g6_, 1, none⟩ = some (.slice A_G1 rb1.length c_G1) := (blk_cell BK6.out 1).trans rfl
  have hz_BK10_0 : w25_.cell? ⟨g10_, 0, none⟩ = some (.int .i64 q0) := (blk_cell BK10.out 0).trans rfl
  have hz_BK10_1 : w25_.cell? ⟨g10_, 1, none⟩ = some (.slice A_H1 rb1.length c_H1) := (blk_cell BK10.out 1).trans rfl
  go_wp2_with (first | (go_at_call 20; refine hold_here ?_))
  refine hold_go ?_
  refine (heldBytesResult_len _ q0 A_G1 c_G1 mr rb1.length H_lr.out 1 _ _ ?s1 ?s2 H_hr.out).mono ?_
  case s1 => exact (Kd.R_reads' (by (with_reducible repeat (first | apply Kd.R_alloc | apply Kd.R_drewN | apply Kd.R_drew)); exact G1.out)).2.2
  case s2 => exact (Kd.R_reads' G1.out).2.1
  rintro e w26_ ⟨rfl, hb⟩
  have m_BK1 := Aside0.mk (blk_below (by (with_reducible repeat (first | refine blk_drewN ?_ _ | refine blk_drew ?_ | refine blk_alloc ?_ _)); exact BK1.out) hb)
  have m_W1 := Aside0.mk (Kd.R_below (by (with_reducible repeat (first | apply Kd.R_alloc | apply Kd.R_drewN | apply Kd.R_drew)); exact W1.out) hb)
  have m_BK4 := Aside0.mk (blk_below (by (with_reducible repeat (first | refine blk_drewN ?_ _ | refine blk_drew ?_ | refine blk_alloc ?_ _)); exact BK4.out) hb)
  have m_BK5 := Aside0.mk (blk_below (by (with_reducible repeat (first | refine blk_drewN ?_ _ | refine blk_drew ?_ | refine blk_alloc ?_ _)); exact BK5.out) hb)
  have m_BK6 := Aside0.mk (blk_below (by (with_reducible repeat (first | refine blk_drewN ?_ _ | refine blk_drew ?_ | refine blk_alloc ?_ _)); exact BK6.out) hb)
  have m_G1 := Aside0.mk (Kd.R_below (by (with_reducible repeat (first | apply Kd.R_alloc | apply Kd.R_drewN | apply Kd.R_drew)); exact G1.out) hb)
  have m_T2 := Aside0.mk (AR.below (by (with_reducible repeat (first | refine AR.alloc ?_ _ | refine AR.drewN ?_ _ | refine AR.drew ?_)); exact T2.out) hb)
  have m_H1 := Aside0.mk (Kd.R_below (by (with_reducible repeat (first | apply Kd.R_alloc | apply Kd.R_drewN | apply Kd.R_drew)); exact H1.out) hb)
  have m_BK10 := Aside0.mk (blk_below (by (with_reducible repeat (first | refine blk_drewN ?_ _ | refine blk_drew ?_ | refine blk_alloc ?_ _)); exact BK10.out) hb)
  have m_HB := Aside0.mk (below_step (by repeat (first | (with_reducible first | exact HB.out | apply below_alloc | apply pw_below_drewN | apply below_drew1) | exact HB.out)) hb)
  clear hz_BK1_0 hz_BK1_1 hz_BK1_2 hz_BK4_0 hz_BK4_1 hz_BK5_0 hz_BK5_1 hz_BK5_2 hz_BK6_0 hz_BK6_1 hz_BK10_0 hz_BK10_1
  clear HB BK1 W1 BK4 BK5 BK6 G1 T2 H1 BK10
  have HB := m_HB
  have BK1 := m_BK1
  have W1 := m_W1
  have BK4 := m_BK4
  have BK5 := m_BK5
  have BK6 := m_BK6
  have G1 := m_G1
  have T2 := m_T2
  have H1 := m_H1
  have BK10 := m_BK10
  clear m_HB m_BK1 m_W1 m_BK4 m_BK5 m_BK6 m_G1 m_T2 m_H1 m_BK10
  have Z26 := Aside0.mk (show w25_.heap.size ≤ w26_.heap.size from hb.size)
  clear hb
  have hz_BK1_0 : w26_.cell? ⟨g1_, 0, none⟩ = some (.int .i64 a0) := (blk_cell BK1.out 0).trans rfl
  have hz_BK1_1 : w26_.cell? ⟨g1_, 1, none⟩ = some (.int .i64 a1) := (blk_cell BK1.out 1).trans rfl
  have hz_BK1_2 : w26_.cell? ⟨g1_, 2, none⟩ = some (.slice A0 l0.length c0) := (blk_cell BK1.out 2).trans rfl
  have hz_BK4_0 : w26_.cell? ⟨g4_, 0, none⟩ = some (.int .i64 q0) := (blk_cell BK4.out 0).trans rfl
  have hz_BK4_1 : w26_.cell? ⟨g4_, 1, none⟩ = some (.slice A_W1 rb1.length c_W1) := (blk_cell BK4.out 1).trans rfl
  have hz_BK5_0 : w26_.cell? ⟨g5_, 0, none⟩ = some (.int .i64 a0) := (blk_cell BK5.out 0).trans rfl
  have hz_BK5_1 : w26_.cell? ⟨g5_, 1, none⟩ = some (.int .i64 a1) := (blk_cell BK5.out 1).trans rfl
  have hz_BK5_2 : w26_.cell? ⟨g5_, 2, none⟩ = some (.slice A_X0 l0.length c_X0) := (blk_cell BK5.out 2).trans rfl
  have hz_BK6_0 : w26_.cell? ⟨g6_, 0, none⟩ = some (.int .i64 q0) := (blk_cell BK6.out 0).trans rfl
  have hz_BK6_1 : w26_.cell? ⟨g6_, 1, none⟩ = some (.slice A_G1 rb1.length c_G1) := (blk_cell BK6.out 1).trans rfl
  have hz_BK10_0 : w26_.cell? ⟨g10_, 0, none⟩ = some (.int .i64 q0) := (blk_cell BK10.out 0).trans rfl
  have hz_BK10_1 : w26_.cell? ⟨g10_, 1, none⟩ = some (.slice A_H1 rb1.length c_H1) := (blk_cell BK10.out 1).trans rfl
  go_wp2
  go_ret
  exact ⟨rfl, (by repeat (first | (with_reducible first | exact HB.out | apply below_alloc | apply pw_below_drewN | apply below_drew1) | exact HB.out))⟩
theorem law_PackProof_big (a0 a1 : Int) (A0 : Option Addr) (c0 : Nat) (l0 : List (List Int)) (w : World) (hr0 : Kd.C (Kd.slice 5 (Kd.int .u8)) w A0 l0.length l0) (hc0 : l0.length ≤ c0) (ksz : Nat) (sz : Int) (h_sz : laws_szProof.f ksz a0 a1 l0 1048576 = some sz) (h_szc : sz < 0) :
    Calls Try.prog 14 #[.agg #[.int .i64 a0, .int .i64 a1, .slice A0 l0.length c0]] w fun e w' => e = .returned (.bool true) ∧ Below w.heap.size w w' := by
  have hu1_ := Try.underlying86
  have hu2_ := Try.underlying89
  have hu3_ := Try.underlying24
  have HR0 := Aside0.mk hr0
  have HC0 := Aside0.mk hc0
  have HB := Aside0.mk (Below.refl w.heap.size w)
  have csz_ : decide (sz < 0) = true := decide_eq_true h_szc
  clear hr0 hc0
  go_enter Try.func14, Try.ntmps14
  go_wp2_with (first | ((with_reducible refine gate_dst (N := 1) rfl ?_); refine hold_here ?_))
  refine hold_go ?_
  refine box_event (N := 1) (cs := #[.int .i64 a0, .int .i64 a1, .slice A0 l0.length c0]) (t := 86) ?hgb rfl ?hrb ?_
  case hgb => rfl
  case hrb => first | (go_simp; done) | (go_simp; rfl)
  intro g1_ hg w1_ hbox hb
  have m_HB := Aside0.mk (below_step (by repeat (first | (with_reducible first | exact HB.out | apply below_alloc | apply pw_below_drewN | apply below_drew1) | exact HB.out)) hb)
  clear HB 
  have HB := m_HB
  clear m_HB 
  have Z1 := Aside0.mk (show w.heap.size ≤ w1_.heap.size from hb.size)
  have BK1 := Aside0.mk hbox
  have GE1 := Aside0.mk (show g1_ = w.heap.size from hg)
  have GL1 := Aside0.mk (show g1_ < w1_.heap.size from blk_lt hbox)
  clear hb hbox hg
  have hz_BK1_0 : w1_.cell? ⟨g1_, 0, none⟩ = some (.int .i64 a0) := (blk_cell BK1.out 0).trans rfl
  have hz_BK1_1 : w1_.cell? ⟨g1_, 1, none⟩ = some (.int .i64 a1) := (blk_cell BK1.out 1).trans rfl
  have hz_BK1_2 : w1_.cell? ⟨g1_, 2, none⟩ = some (.slice A0 l0.length c0) := (blk_cell BK1.out 2).trans rfl
  go_wp2_with (first | (go_at_call 73; refine hold_here ?_))
  refine hold_go ?_
  refine (laws_szProof.calls _ a0 a1 A0 c0 l0 1048576 sz _ ?s1 ?s2 h_sz).mono ?_
  case s1 => exact Kd.C_below HR0.out (by repeat (first | (with_reducible first | exact HB.out | apply below_alloc | apply pw_below_drewN | apply below_drew1) | exact HB.out))
  case s2 => exact HC0.out
  rintro e w2_ ⟨rfl, hb⟩
  have m_BK1 := Aside0.mk (blk_below (by (with_reducible repeat (first | refine blk_drewN ?_ _ | refine blk_drew ?_ | refine blk_alloc ?_ _)); exact BK1.out) hb)
  have m_HB := Aside0.mk (below_step (by repeat (first | (with_reducible first | exact HB.out | apply below_alloc | apply pw_below_drewN | apply below_drew1) | exact HB.out)) hb)
  clear hz_BK1_0 hz_BK1_1 hz_BK1_2
  clear HB BK1
  have HB := m_HB
  have BK1 := m_BK1
  clear m_HB m_BK1
  have Z2 := Aside0.mk (show w1_.heap.size ≤ w2_.heap.size from hb.size)
  clear hb
  have hz_BK1_0 : w2_.cell? ⟨g1_, 0, none⟩ = some (.int .i64 a0) := (blk_cell BK1.out 0).trans rfl
  have hz_BK1_1 : w2_.cell? ⟨g1_, 1, none⟩ = some (.int .i64 a1) := (blk_cell BK1.out 1).trans rfl
  have hz_BK1_2 : w2_.cell? ⟨g1_, 2, none⟩ = some (.slice A0 l0.length c0) := (blk_cell BK1.out 2).trans rfl
  go_wp2
  go_ret
  exact ⟨rfl, (by repeat (first | (with_reducible first | exact HB.out | apply below_alloc | apply pw_below_drewN | apply below_drew1) | exact HB.out))⟩

end Go.Proofs.Ytmmhghddldhogaa.S

/- DIRECT: the law FnExactPackProof returns true at every argument: the program's PackProof and the reference's answer alike, in new memory. No condition. -/
set_option linter.unusedVariables false
namespace Go.Proofs.Ytmmhghddldhogaa.S
open Go.RowKit Go.Proofs.YtmmhghddldhogaaW.PrintWords Go.Proofs.YtmmhghddldhogaaW.PrintLast Go.Proofs.YtmmhghddldhogaaW.PrintMore Go.Proofs.Ytmmhghddldhogaa.Base
def proofW (p n : Int) (ls : List (List Int)) : List (List Int) := [[p % 256], [n % 256]] ++ ls
def packProofV (p n : Int) (L : List Bool) (ls : List (List Int)) : Int × List Int := if Right n p L ls then (0, packL (proofW p n ls)) else (1, [])
theorem proofW_ok {p n : Int} {L : List Bool} {ls : List (List Int)} (hL : L.length ≤ 15) (h : Right n p L ls) : (proofW p n ls).length ≤ 17 ∧ (∀ w ∈ proofW p n ls, w.length ≤ 32) ∧ (packL (proofW p n ls)).length ≤ 561 := by
  have h1 : (proofW p n ls).length ≤ 17 := by
    unfold proofW
    rw [List.length_append]
    have := h.2.1
    simp only [List.length_cons, List.length_nil]
    omega
  have h2 : ∀ w ∈ proofW p n ls, w.length ≤ 32 := by
    intro w hw
    unfold proofW at hw
    rcases List.mem_append.1 hw with hw | hw
    · simp only [List.mem_cons, List.not_mem_nil, or_false] at hw
      rcases hw with rfl | rfl <;> simp
    · exact Nat.le_of_eq (h.2.2 w hw)
  have h3 := packL_len h2
  exact ⟨h1, h2, by omega⟩
theorem packProofV_length {p n : Int} {L : List Bool} {ls : List (List Int)} (hL : L.length ≤ 15) : (packProofV p n L ls).2.length ≤ 561 := by
  unfold packProofV
  by_cases h : Right n p L ls
  · rw [if_pos h]; exact (proofW_ok hL h).2.2
  · rw [if_neg h]; exact Nat.zero_le _
theorem impl_PackProof_ev (p n : Int) (L : List Bool) (hL : L.length ≤ 15) (h : Placed n p → Ev (fun k => impl_sides.f k n p) L) (ls : List (List Int)) : Ev (fun k => impl_PackProof.f k p n ls) (packProofV p n L ls) := by
  unfold impl_PackProof.f packProofV
  refine ev_bind (impl_isProof_ev n p L h ls) ?_
  by_cases c : Right n p L ls
  · rw [if_pos c]
    obtain ⟨h1, h2, h3⟩ := proofW_ok hL c
    have hn := c.2.1
    have hp : packedV (proofW p n ls) = (packL (proofW p n ls), true) := by
      unfold packedV
      rw [if_neg (by omega), if_pos ⟨fun w hw => by have := h2 w hw; omega, by omega⟩]
    refine ev_pos (decide_eq_true c) (ev_bind (a := packL (proofW p n ls)) ?_ (ev_now rfl))
    unfold impl_packProof.f
    refine ev_bind (ev_now rfl) (ev_pos (by simp only [List.length_cons, List.length_nil]; omega) (ev_bind (a := packL (proofW p n ls)) ?_ (ev_now rfl)))
    unfold impl_pack.f
    refine ev_bind (packed_ev (proofW p n ls) (fun w hw => by have := h2 w hw; omega)) ?_
    rw [hp]
    exact ev_now rfl
  · rw [if_neg c]
    exact ev_neg (fun g => c (of_decide_eq_true g)) (ev_now rfl)
theorem spec_PackProof_ev (p n : Int) (L : List Bool) (hL : L.length ≤ 15) (h : Placed n p → Ev (fun k => spec_l3Sides.f k n p) (L.map not)) (ls : List (List Int)) (hl : ls.length ≤ 11728124029610) : Ev (fun k => spec_PackProof.f k p n ls) (packProofV p n L ls) := by
  unfold spec_PackProof.f packProofV
  refine ev_bind (spec_right_ev n p L h ls hl) ?_
  by_cases c : Right n p L ls
  · rw [if_pos c]
    obtain ⟨h1, h2, h3⟩ := proofW_ok hL c
    have hn := c.2.1
    exact ev_pos (decide_eq_true c) (ev_bind (ev_now rfl) (ev_pos (by simp only [List.length_cons, List.length_nil]; omega) (ev_bind (l1Pack_ev (proofW p n ls) (by omega) (by omega)) (ev_now rfl))))
  · rw [if_neg c]
    exact ev_neg (fun g => c (of_decide_eq_true g)) (ev_now rfl)
theorem szProof_ex (a b : Int) (ls : List (List Int)) (hl : ls.length ≤ 9223372036854775807) (hi : ∀ l ∈ ls, l.length ≤ 9223372036854775807) (m : Int) (ha : 0 ≤ m) (hb : m ≤ 1048576) : ∃ r, Ev (fun k => laws_szProof.f k a b ls m) r ∧ (¬ r < 0 → (ls.length : Int) + (ls.flatten.length : Int) ≤ m) := by
  obtain ⟨r, hr, hrm, hz⟩ := szByteSS_ex ls hl hi m ha hb
  unfold laws_szProof.f
  by_cases c : r < 0
  · exact ⟨-1, ev_bind hr (ev_pos c (ev_now rfl)), fun g => absurd (by omega) g⟩
  · exact ⟨r, ev_bind hr (ev_neg c (ev_now rfl)), fun g => by have := hz g; omega⟩
end Go.Proofs.Ytmmhghddldhogaa.S
namespace Go.Proofs.Ytmmhghddldhogaa.Pure
open Go Go.RowKit Go.Proofs.Ytmmhghddldhogaa.S Go.Proofs.YtmmhghddldhogaaW.PrintWords Go.Proofs.YtmmhghddldhogaaW.PrintLast Go.Proofs.YtmmhghddldhogaaW.PrintMore Go.Proofs.Ytmmhghddldhogaa.Base

theorem FnExactPackProof (y0 : S86) (hw : ((Lit.int .i64 y0.f0).wf = true) ∧ ((Lit.int .i64 y0.f1).wf = true) ∧ (y0.f2.length ≤ 9223372036854775807 ∧ ∀ y3 ∈ y0.f2, y3.length ≤ 9223372036854775807 ∧ ∀ y4 ∈ y3, (Lit.int .u8 y4).wf = true)) (A0_2 : Option Addr) (c0_2 : Nat) (w : World) (hr0_2 : Kd.C (Kd.slice 5 (Kd.int .u8)) w A0_2 y0.f2.length y0.f2) (hc0_2 : y0.f2.length ≤ c0_2) :
    Calls Try.prog 14 #[.agg #[.int .i64 y0.f0, .int .i64 y0.f1, .slice A0_2 y0.f2.length c0_2]] w fun e w' => e = .returned (.bool true) ∧ Below w.heap.size w w' := by
  obtain ⟨p, n, ls⟩ := y0
  obtain ⟨_, _, hl, hw⟩ := hw
  simp only at hl hw hr0_2 hc0_2 ⊢
  obtain ⟨sz, hsz, hz⟩ := szProof_ex p n ls hl (fun l hm => (hw l hm).1) 1048576 (by omega) (by omega)
  obtain ⟨ksz, hsz⟩ := hsz.rounds
  by_cases c : sz < 0
  · exact law_PackProof_big p n A0_2 c0_2 ls w hr0_2 hc0_2 ksz sz hsz c
  have hz := hz c
  have hmem : ∀ l ∈ ls, l.length ≤ 281474976710656 := fun l hm => by have := mem_flat hm; omega
  obtain ⟨L, hL, hi, hs⟩ := sides_any n p
  have hs := spec_PackProof_ev p n L hL hs ls (by omega)
  have hi := impl_PackProof_ev p n L hL hi ls
  have hn := packProofV_length (p := p) (n := n) (L := L) (ls := ls) hL
  generalize packProofV p n L ls = r at *
  obtain ⟨q, rb⟩ := r
  simp only at hn
  obtain ⟨kt, ht⟩ := (show Ev (fun k => laws_toProof.f k p n ls) (p, n, ls) from by
    unfold laws_toProof.f
    exact ev_bind (toByteSS_ev ls (by omega) hmem) (ev_now rfl)).rounds
  obtain ⟨ke, he⟩ := (show Ev (fun k => laws_eqProof.f k p n ls p n ls) true from by
    unfold laws_eqProof.f
    exact ev_pos rfl (ev_pos rfl (ev_bind (eqByteSS_ev ls (by omega) hmem) (ev_pos rfl (ev_now rfl))))).rounds
  obtain ⟨ks, hs⟩ := hs.rounds
  obtain ⟨ki, hi⟩ := hi.rounds
  obtain ⟨kr, her⟩ := (eqBytesResult_ev q rb (by omega)).rounds
  obtain ⟨km, hm⟩ := (markBytesResult_ev q rb (by omega)).rounds
  obtain ⟨kh, hh⟩ := (heldBytesResult_ev q rb.length (by omega)).rounds
  exact law_PackProof p n A0_2 c0_2 ls q rb ls.flatten.length (marked 1 rb.length) sz w hr0_2 hc0_2 ke kr kh ki km ks ksz kt hsz c ht he hs hi her rfl (by decide) (by omega) (by omega) hm (marked_length 1 rb.length) hh
end Go.Proofs.Ytmmhghddldhogaa.Pure
