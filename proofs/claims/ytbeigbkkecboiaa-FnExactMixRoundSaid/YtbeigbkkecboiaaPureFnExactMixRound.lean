import Derived.Test.YtbeigbkkecboiaaBase
import Derived.Test.YtbeigbkkecboiaaSxLawsHelp
import Derived.Test.YtbeigbkkecboiaaSxLawsHelp
import Derived.Test.YtbeigbkkecboiaaSxLawsHelp
import Derived.Test.YtbeigbkkecboiaaSxLawsHelp
import Derived.Test.YtbeigbkkecboiaaSxLawsFnExactMixRound
import Derived.Test.YtbeigbkkecboiaaSxImplMixRound
import Derived.Test.YtbeigbkkecboiaaSxSpecMixRound
/- What the laws' own helpers on slices of numbers come to: toInt64S copies, eqInt64S compares, markInt64S and heldInt64S count alike. For every slice that fits memory. -/
set_option linter.unusedVariables false
namespace Go.Proofs.Ytbeigbkkecboiaa.S
open Go.RowKit Go.Proofs.YtbeigbkkecboiaaW.PrintWords Go.Proofs.YtbeigbkkecboiaaW.PrintLast Go.Proofs.YtbeigbkkecboiaaW.PrintMore Go.Proofs.Ytbeigbkkecboiaa.Base

theorem toInt64S_l0 (l : List Int) (hl : l.length ≤ 35184372088832) : ∀ (d : Nat) (x : List Int) (i : Nat), i + d = l.length → x.length = l.length → (∀ j, j < i → x[j]? = l[j]?) → Ev (fun k => laws_toInt64S.l0 k l x (i : Int)) l := by
  intro d
  induction d with
  | zero =>
    intro x i hi hx hj
    refine ev_step (fun k => laws_toInt64S.l0.eq_2 _ _ _ _) ?_
    refine ev_neg (by omega) ?_
    rw [fill_all hx (fun j h => hj j (by omega))]
    exact ev_now rfl
  | succ d ih =>
    intro x i hi hx hj
    refine ev_step (fun k => laws_toInt64S.l0.eq_2 _ _ _ _) ?_
    refine ev_pos (by omega) ?_
    refine ev_pos (by omega) ?_
    refine ev_pos (by omega) ?_
    rw [w64s (by omega), Int.toNat_natCast]
    exact ih _ (i + 1) (by omega) (by rw [List.length_set]; exact hx) (fill_step (by omega) hx hj)
theorem toInt64S_ev (l : List Int) (hl : l.length ≤ 35184372088832) : Ev (fun k => laws_toInt64S.f k l) l := by
  unfold laws_toInt64S.f
  refine ev_pos (by omega) ?_
  refine ev_pos (by omega) ?_
  exact toInt64S_l0 l hl l.length _ 0 (by omega) (by simp) (fun j h => by omega)
theorem eqInt64S_l0 (l : List Int) (hl : l.length ≤ 35184372088832) : ∀ (d i : Nat), i + d = l.length → Ev (fun k => laws_eqInt64S.l0 k l l (i : Int)) true := by
  intro d
  induction d with
  | zero =>
    intro i hi
    refine ev_step (fun k => laws_eqInt64S.l0.eq_2 _ _ _ _) ?_
    refine ev_neg (by omega) ?_
    exact ev_now rfl
  | succ d ih =>
    intro i hi
    refine ev_step (fun k => laws_eqInt64S.l0.eq_2 _ _ _ _) ?_
    refine ev_pos (by omega) ?_
    refine ev_pos (by omega) ?_
    refine ev_pos (by omega) ?_
    refine ev_pos rfl ?_
    rw [w64s (by omega)]
    exact ih (i + 1) (by omega)
theorem eqInt64S_ev (l : List Int) (hl : l.length ≤ 35184372088832) : Ev (fun k => laws_eqInt64S.f k l l) true := by
  unfold laws_eqInt64S.f
  refine ev_pos rfl ?_
  exact eqInt64S_l0 l hl l.length 0 (by omega)
end Go.Proofs.Ytbeigbkkecboiaa.S

/- What the laws' own helpers on byte slices come to: toByteS copies, eqByteS compares, markByteS and heldByteS count alike. For every slice that fits memory. -/
set_option linter.unusedVariables false
namespace Go.Proofs.Ytbeigbkkecboiaa.S
open Go.RowKit Go.Proofs.YtbeigbkkecboiaaW.PrintWords Go.Proofs.YtbeigbkkecboiaaW.PrintLast Go.Proofs.YtbeigbkkecboiaaW.PrintMore Go.Proofs.Ytbeigbkkecboiaa.Base

theorem toByteS_l0 (l : List Int) (hl : l.length ≤ 281474976710656) : ∀ (d : Nat) (x : List Int) (i : Nat), i + d = l.length → x.length = l.length → (∀ j, j < i → x[j]? = l[j]?) → Ev (fun k => laws_toByteS.l0 k l x (i : Int)) l := by
  intro d
  induction d with
  | zero =>
    intro x i hi hx hj
    refine ev_step (fun k => laws_toByteS.l0.eq_2 _ _ _ _) ?_
    refine ev_neg (by omega) ?_
    rw [fill_all hx (fun j h => hj j (by omega))]
    exact ev_now rfl
  | succ d ih =>
    intro x i hi hx hj
    refine ev_step (fun k => laws_toByteS.l0.eq_2 _ _ _ _) ?_
    refine ev_pos (by omega) ?_
    refine ev_pos (by omega) ?_
    refine ev_pos (by omega) ?_
    rw [w64s (by omega), Int.toNat_natCast]
    exact ih _ (i + 1) (by omega) (by rw [List.length_set]; exact hx) (fill_step (by omega) hx hj)
theorem toByteS_ev (l : List Int) (hl : l.length ≤ 281474976710656) : Ev (fun k => laws_toByteS.f k l) l := by
  unfold laws_toByteS.f
  refine ev_pos (by omega) ?_
  refine ev_pos (by omega) ?_
  exact toByteS_l0 l hl l.length _ 0 (by omega) (by simp) (fun j h => by omega)
theorem eqByteS_l0 (l : List Int) (hl : l.length ≤ 281474976710656) : ∀ (d i : Nat), i + d = l.length → Ev (fun k => laws_eqByteS.l0 k l l (i : Int)) true := by
  intro d
  induction d with
  | zero =>
    intro i hi
    refine ev_step (fun k => laws_eqByteS.l0.eq_2 _ _ _ _) ?_
    refine ev_neg (by omega) ?_
    exact ev_now rfl
  | succ d ih =>
    intro i hi
    refine ev_step (fun k => laws_eqByteS.l0.eq_2 _ _ _ _) ?_
    refine ev_pos (by omega) ?_
    refine ev_pos (by omega) ?_
    refine ev_pos (by omega) ?_
    refine ev_pos rfl ?_
    rw [w64s (by omega)]
    exact ih (i + 1) (by omega)
theorem eqByteS_ev (l : List Int) (hl : l.length ≤ 281474976710656) : Ev (fun k => laws_eqByteS.f k l l) true := by
  unfold laws_eqByteS.f
  refine ev_pos rfl ?_
  exact eqByteS_l0 l hl l.length 0 (by omega)
end Go.Proofs.Ytbeigbkkecboiaa.S

/- What the laws' markByteS and heldByteS come to: places are numbered from a start on, and found numbered so. For every slice and start that fit. -/
set_option linter.unusedVariables false
namespace Go.Proofs.Ytbeigbkkecboiaa.S
open Go.RowKit Go.Proofs.YtbeigbkkecboiaaW.PrintWords Go.Proofs.YtbeigbkkecboiaaW.PrintLast Go.Proofs.YtbeigbkkecboiaaW.PrintMore Go.Proofs.Ytbeigbkkecboiaa.Base

/-- n places numbered from a on. -/
def marked (a : Int) (n : Nat) : List Int := (List.range n).map fun (j : Nat) => (a + (j : Int)) % 256
theorem marked_length (a : Int) (n : Nat) : (marked a n).length = n := by simp [marked]
theorem marked_at (a : Int) (n j : Nat) (h : j < n) : (marked a n)[j]? = some ((a + (j : Int)) % 256) := by
  simp [marked, List.getElem?_map, List.getElem?_range h]
theorem markByteS_l0 (a : Int) (n : Nat) (h0 : 0 ≤ a) (h1 : a + n ≤ 4611686018427387904) : ∀ (d i : Nat) (x : List Int), i + d = n → x.length = n → (∀ j, j < i → x[j]? = (marked a n)[j]?) → Ev (fun k => laws_markByteS.l0 k x (a + (i : Int)) (i : Int)) (a + (n : Int), marked a n) := by
  intro d
  induction d with
  | zero =>
    intro i x hi hx hj
    refine ev_step (fun k => laws_markByteS.l0.eq_2 _ _ _ _) (ev_neg (by omega) ?_)
    have e : x = marked a n := fill_all (by rw [marked_length]; exact hx) (fun j h => hj j (by rw [marked_length] at h; omega))
    rw [e, show i = n by omega]
    exact ev_now rfl
  | succ d ih =>
    intro i x hi hx hj
    refine ev_step (fun k => laws_markByteS.l0.eq_2 _ _ _ _) (ev_pos (by omega) (ev_pos (by omega) ?_))
    rw [w64s (by omega), w64 (n := a + (i : Int) + 1) (by omega) (by omega), Int.toNat_natCast, show a + (i : Int) + 1 = a + ((i + 1 : Nat) : Int) by omega]
    refine ih (i + 1) _ (by omega) (by rw [List.length_set]; exact hx) ?_
    intro j hj'
    rw [List.getElem?_set]
    by_cases e : i = j
    · subst e
      rw [if_pos rfl, if_pos (by omega), marked_at a n i (by omega)]
    · rw [if_neg e]; exact hj j (by omega)
theorem markByteS_ev (l : List Int) (a : Int) (h0 : 0 ≤ a) (h1 : a + l.length ≤ 4611686018427387904) : Ev (fun k => laws_markByteS.f k l a) (a + (l.length : Int), marked a l.length) := by
  have h := markByteS_l0 a l.length h0 h1 l.length 0 l (by omega) rfl (fun j h => by omega)
  rw [show a + ((0 : Nat) : Int) = a by omega] at h
  exact h
theorem heldByteS_l0 (a : Int) (n : Nat) (h0 : 0 ≤ a) (h1 : a + n ≤ 4611686018427387904) : ∀ (d i : Nat), i + d = n → Ev (fun k => laws_heldByteS.l0 k (marked a n) (a + (i : Int)) (i : Int)) (a + (n : Int)) := by
  intro d
  induction d with
  | zero =>
    intro i hi
    refine ev_step (fun k => laws_heldByteS.l0.eq_2 _ _ _ _) (ev_neg (by rw [marked_length]; omega) ?_)
    rw [show i = n by omega]
    exact ev_now rfl
  | succ d ih =>
    intro i hi
    refine ev_step (fun k => laws_heldByteS.l0.eq_2 _ _ _ _) (ev_pos (by rw [marked_length]; omega) (ev_pos (by omega) (ev_pos ?_ ?_)))
    · unfold rd
      rw [List.getD_eq_getElem?_getD, Int.toNat_natCast, marked_at a n i (by omega)]
      rfl
    · rw [w64s (by omega), w64 (n := a + (i : Int) + 1) (by omega) (by omega), show a + (i : Int) + 1 = a + ((i + 1 : Nat) : Int) by omega]
      exact ih (i + 1) (by omega)
theorem heldByteS_ev (n : Nat) (a : Int) (h0 : 0 ≤ a) (h1 : a + n ≤ 4611686018427387904) : Ev (fun k => laws_heldByteS.f k (marked a n) a) (a + (n : Int)) := by
  have h := heldByteS_l0 a n h0 h1 n 0 (by omega)
  rw [show a + ((0 : Nat) : Int) = a by omega] at h
  exact h
end Go.Proofs.Ytbeigbkkecboiaa.S

/- What the laws' markInt64S and heldInt64S come to: places are numbered from a start on, and found numbered so. For every slice and start that fit. -/
set_option linter.unusedVariables false
namespace Go.Proofs.Ytbeigbkkecboiaa.S
open Go.RowKit Go.Proofs.YtbeigbkkecboiaaW.PrintWords Go.Proofs.YtbeigbkkecboiaaW.PrintLast Go.Proofs.YtbeigbkkecboiaaW.PrintMore Go.Proofs.Ytbeigbkkecboiaa.Base

/-- n places numbered from a on. -/
def markedI (a : Int) (n : Nat) : List Int := (List.range n).map fun (j : Nat) => a + (j : Int)
theorem markedI_length (a : Int) (n : Nat) : (markedI a n).length = n := by simp [markedI]
theorem markedI_at (a : Int) (n j : Nat) (h : j < n) : (markedI a n)[j]? = some (a + (j : Int)) := by
  simp [markedI, List.getElem?_map, List.getElem?_range h]
theorem markInt64S_l0 (a : Int) (n : Nat) (h0 : 0 ≤ a) (h1 : a + n ≤ 4611686018427387904) : ∀ (d i : Nat) (x : List Int), i + d = n → x.length = n → (∀ j, j < i → x[j]? = (markedI a n)[j]?) → Ev (fun k => laws_markInt64S.l0 k x (a + (i : Int)) (i : Int)) (a + (n : Int), markedI a n) := by
  intro d
  induction d with
  | zero =>
    intro i x hi hx hj
    refine ev_step (fun k => laws_markInt64S.l0.eq_2 _ _ _ _) (ev_neg (by omega) ?_)
    have e : x = markedI a n := fill_all (by rw [markedI_length]; exact hx) (fun j h => hj j (by rw [markedI_length] at h; omega))
    rw [e, show i = n by omega]
    exact ev_now rfl
  | succ d ih =>
    intro i x hi hx hj
    refine ev_step (fun k => laws_markInt64S.l0.eq_2 _ _ _ _) (ev_pos (by omega) (ev_pos (by omega) ?_))
    rw [w64s (by omega), w64 (n := a + (i : Int) + 1) (by omega) (by omega), Int.toNat_natCast, show a + (i : Int) + 1 = a + ((i + 1 : Nat) : Int) by omega]
    refine ih (i + 1) _ (by omega) (by rw [List.length_set]; exact hx) ?_
    intro j hj'
    rw [List.getElem?_set]
    by_cases e : i = j
    · subst e
      rw [if_pos rfl, if_pos (by omega), markedI_at a n i (by omega)]
    · rw [if_neg e]; exact hj j (by omega)
theorem markInt64S_ev (l : List Int) (a : Int) (h0 : 0 ≤ a) (h1 : a + l.length ≤ 4611686018427387904) : Ev (fun k => laws_markInt64S.f k l a) (a + (l.length : Int), markedI a l.length) := by
  have h := markInt64S_l0 a l.length h0 h1 l.length 0 l (by omega) rfl (fun j h => by omega)
  rw [show a + ((0 : Nat) : Int) = a by omega] at h
  exact h
theorem heldInt64S_l0 (a : Int) (n : Nat) (h0 : 0 ≤ a) (h1 : a + n ≤ 4611686018427387904) : ∀ (d i : Nat), i + d = n → Ev (fun k => laws_heldInt64S.l0 k (markedI a n) (a + (i : Int)) (i : Int)) (a + (n : Int)) := by
  intro d
  induction d with
  | zero =>
    intro i hi
    refine ev_step (fun k => laws_heldInt64S.l0.eq_2 _ _ _ _) (ev_neg (by rw [markedI_length]; omega) ?_)
    rw [show i = n by omega]
    exact ev_now rfl
  | succ d ih =>
    intro i hi
    refine ev_step (fun k => laws_heldInt64S.l0.eq_2 _ _ _ _) (ev_pos (by rw [markedI_length]; omega) (ev_pos (by omega) (ev_pos ?_ ?_)))
    · unfold rd
      rw [List.getD_eq_getElem?_getD, Int.toNat_natCast, markedI_at a n i (by omega)]
      rfl
    · rw [w64s (by omega), w64 (n := a + (i : Int) + 1) (by omega) (by omega), show a + (i : Int) + 1 = a + ((i + 1 : Nat) : Int) by omega]
      exact ih (i + 1) (by omega)
theorem heldInt64S_ev (n : Nat) (a : Int) (h0 : 0 ≤ a) (h1 : a + n ≤ 4611686018427387904) : Ev (fun k => laws_heldInt64S.f k (markedI a n) a) (a + (n : Int)) := by
  have h := heldInt64S_l0 a n h0 h1 n 0 (by omega)
  rw [show a + ((0 : Nat) : Int) = a by omega] at h
  exact h
end Go.Proofs.Ytbeigbkkecboiaa.S

/- The program's MixRound and the reference's answer alike, for every argument, in new memory. No condition. -/
set_option linter.unusedVariables false
namespace Go.Proofs.Ytbeigbkkecboiaa.Pure
open Go.RowKit Go.Proofs.Ytbeigbkkecboiaa.S Go.Proofs.YtbeigbkkecboiaaW.PrintWords Go.Proofs.YtbeigbkkecboiaaW.PrintLast Go.Proofs.YtbeigbkkecboiaaW.PrintMore Go.Proofs.Ytbeigbkkecboiaa.Base Go.Proofs.Ytbeigbkkecboiaa.Sha

theorem FnExactMixRound : laws_FnExactMixRound.Pure := by
  intro l0 a1 a2 _ hsz hwf hw1 hw2
  refine Ev.rounds ?_
  unfold laws_FnExactMixRound.f
  by_cases hc : (l0.length : Int) > 1048576
  · exact ev_pos hc (ev_now rfl)
  refine ev_neg hc ?_
  have hok : spec_MixRound.ok l0 a1 a2 = true := by
    unfold spec_MixRound.ok
    simp only [Bool.and_eq_true, decide_eq_true_eq, List.all_eq_true]
    exact ⟨⟨fun x hx => wf_i64 (hwf x hx), wf_i64 hw1⟩, wf_i64 hw2⟩
  obtain ⟨r, hi, hs, hn⟩ : ∃ r : List Int, impl_MixRound.f l0 a1 a2 = some r ∧ spec_MixRound.f l0 a1 a2 = some r ∧ r.length ≤ 8 := by
    by_cases h8 : l0.length = 8
    · refine ⟨mixV l0 a1 a2, by unfold impl_MixRound.f; rw [if_pos h8], by unfold spec_MixRound.f; rw [if_pos hok, if_pos h8]; rfl, ?_⟩
      unfold mixV
      rw [List.length_map, mixN_length (by simpa using h8)]
      exact Nat.le_refl _
    · exact ⟨[], by unfold impl_MixRound.f; rw [if_neg h8], by unfold spec_MixRound.f; rw [if_pos hok, if_neg h8], by simp⟩
  have hi := ev_now hi
  have hs := ev_now hs
  have ht := toInt64S_ev l0 (by omega)
  have he := eqInt64S_ev r (by omega)
  have hb := eqInt64S_ev l0 (by omega)
  have hk := markInt64S_ev l0 1 (by omega) (by omega)
  have hm := markInt64S_ev r 1 (by omega) (by omega)
  have hh := heldInt64S_ev r.length 1 (by omega) (by omega)
  refine ev_bind ht (ev_bind hs (ev_bind ht (ev_bind hi (ev_bind he (ev_pos rfl (ev_bind ht (ev_bind hb (ev_pos rfl (ev_bind hk (ev_neg (by show ¬ (1 + (l0.length : Int)) < 0; omega) (ev_bind he ?_)))))))))))
  refine ev_step (fun k => laws_FnExactMixRound.j0.eq_2 _ _ _ _ _ _ _) (ev_neg (by decide) (ev_bind hm (ev_bind hh (ev_neg (by omega) (ev_pos rfl ?_)))))
  exact ev_bind ht (ev_bind hi (ev_bind he (ev_pos rfl (ev_bind hh (ev_neg (by omega) (ev_pos rfl (ev_now rfl)))))))
end Go.Proofs.Ytbeigbkkecboiaa.Pure
