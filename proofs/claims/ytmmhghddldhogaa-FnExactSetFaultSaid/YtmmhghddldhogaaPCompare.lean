/- What the reference's CompareBytes comes to: the order of the first unlike bytes, else of the lengths. For all slices that fit memory. -/
import Derived.Test.YtmmhghddldhogaaPBytes
import Derived.Test.YtmmhghddldhogaaSxSpecCompareBytes
set_option linter.unusedVariables false
namespace Go.Proofs.Ytmmhghddldhogaa.S
open Go.RowKit Go.Proofs.YtmmhghddldhogaaW.PrintWords Go.Proofs.YtmmhghddldhogaaW.PrintLast Go.Proofs.YtmmhghddldhogaaW.PrintMore Go.Proofs.Ytmmhghddldhogaa.Base

def cmpL : List Int → List Int → Int
  | [], [] => 0
  | [], _ :: _ => -1
  | _ :: _, [] => 1
  | x :: a, y :: b => if x < y then -1 else if y < x then 1 else cmpL a b
theorem cmpL_zero : ∀ a b : List Int, cmpL a b = 0 ↔ a = b
  | [], [] => by simp [cmpL]
  | [], _ :: _ => by simp [cmpL]
  | _ :: _, [] => by simp [cmpL]
  | x :: a, y :: b => by
    have ih := cmpL_zero a b
    unfold cmpL
    by_cases h : x < y
    · rw [if_pos h]; simp; intro e; omega
    · rw [if_neg h]
      by_cases h2 : y < x
      · rw [if_pos h2]; simp; intro e; omega
      · rw [if_neg h2, ih]
        have : x = y := by omega
        simp [this]
theorem compareBytes_l0 (a b : List Int) (ha : a.length ≤ 281474976710656) (hb : b.length ≤ 281474976710656) : ∀ (d i : Nat), i + d = a.length → i ≤ b.length → Ev (fun k => spec_CompareBytes.l0 k a b (i : Int)) (cmpL (a.drop i) (b.drop i)) := by
  intro d
  induction d with
  | zero =>
    intro i hi hj
    rw [List.drop_of_length_le (l := a) (by omega)]
    refine ev_step (fun k => spec_CompareBytes.l0.eq_2 _ _ _ _) (ev_neg (by omega) ?_)
    refine ev_step (fun k => spec_CompareBytes.j1.eq_2 _ _ _ _ _) (ev_neg (by simp) ?_)
    by_cases h : (a.length : Int) < (b.length : Int)
    · refine ev_pos h ?_
      rw [List.drop_eq_getElem_cons (l := b) (i := i) (by omega)]
      exact ev_now rfl
    · refine ev_neg h (ev_neg (by omega) ?_)
      rw [List.drop_of_length_le (l := b) (by omega)]
      exact ev_now rfl
  | succ d ih =>
    intro i hi hj
    refine ev_step (fun k => spec_CompareBytes.l0.eq_2 _ _ _ _) (ev_pos (by omega) ?_)
    refine ev_step (fun k => spec_CompareBytes.j1.eq_2 _ _ _ _ _) ?_
    rw [List.drop_eq_getElem_cons (l := a) (i := i) (by omega)]
    by_cases h : (i : Int) < (b.length : Int)
    · refine ev_pos (by simpa using h) (ev_pos (by omega) (ev_pos (by omega) (ev_pos h ?_)))
      rw [List.drop_eq_getElem_cons (l := b) (i := i) (by omega), rd_nat a i (by omega), rd_nat b i (by omega)]
      unfold cmpL
      by_cases h1 : a[i] < b[i]
      · rw [if_pos h1]; exact ev_pos h1 (ev_now rfl)
      · rw [if_neg h1]
        refine ev_neg h1 ?_
        by_cases h2 : b[i] < a[i]
        · rw [if_pos h2]; exact ev_pos h2 (ev_now rfl)
        · rw [if_neg h2]
          refine ev_neg h2 ?_
          rw [w64s (by omega)]
          exact ih (i + 1) (by omega) (by omega)
    · refine ev_neg (by simpa using h) ?_
      rw [List.drop_of_length_le (l := b) (by omega)]
      exact ev_neg (by omega) (ev_pos (by omega) (ev_now rfl))
theorem compareBytes_ev (a b : List Int) (ha : a.length ≤ 281474976710656) (hb : b.length ≤ 281474976710656) : Ev (fun k => spec_CompareBytes.f k a b) (cmpL a b) :=
  compareBytes_l0 a b ha hb a.length 0 (by omega) (by omega)
end Go.Proofs.Ytmmhghddldhogaa.S
