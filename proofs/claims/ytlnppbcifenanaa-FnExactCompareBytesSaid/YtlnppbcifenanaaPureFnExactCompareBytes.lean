import Derived.Test.YtlnppbcifenanaaBase
import Derived.Test.YtlnppbcifenanaaSxLawsHelp
import Derived.Test.YtlnppbcifenanaaSxSpecCompareBytes
import Derived.Test.YtlnppbcifenanaaSxLawsFnExactCompareBytes
import Derived.Test.YtlnppbcifenanaaSxImplCompareBytes
import Derived.Test.YtlnppbcifenanaaSxBytesCompare
/- What the laws' own helpers on byte slices come to: toByteS copies, eqByteS compares, markByteS and heldByteS count alike. For every slice that fits memory. -/
set_option linter.unusedVariables false
namespace Go.Proofs.Ytlnppbcifenanaa.S
open Go.RowKit Go.Proofs.YtlnppbcifenanaaW.PrintWords Go.Proofs.YtlnppbcifenanaaW.PrintLast Go.Proofs.YtlnppbcifenanaaW.PrintMore Go.Proofs.Ytlnppbcifenanaa.Base

theorem toByteS_l0 (l : List Int) (hl : l.length ≤ 281474976710656) : ∀ (d : Nat) (x : List Int) (i : Nat), i + d = l.length → x.length = l.length → (∀ j, j < i → x[j]? = l[j]?) → Ev (fun k => laws_toByteS.l0 k l x (i : Int)) l := by
  intro d
  induction d with
  | zero =>
    intro x i hi hx hj
    refine ev_step (fun k => laws_toByteS.l0.eq_2 _ _ _ _) ?_
    refine ev_neg (by omega) ?_
    rw [fill_all hx (fun j h => hj j (by omega))]
    exact ev_now rfl
  | succ d ih =>
    intro x i hi hx hj
    refine ev_step (fun k => laws_toByteS.l0.eq_2 _ _ _ _) ?_
    refine ev_pos (by omega) ?_
    refine ev_pos (by omega) ?_
    refine ev_pos (by omega) ?_
    rw [w64s (by omega), Int.toNat_natCast]
    exact ih _ (i + 1) (by omega) (by rw [List.length_set]; exact hx) (fill_step (by omega) hx hj)
theorem toByteS_ev (l : List Int) (hl : l.length ≤ 281474976710656) : Ev (fun k => laws_toByteS.f k l) l := by
  unfold laws_toByteS.f
  refine ev_pos (by omega) ?_
  refine ev_pos (by omega) ?_
  exact toByteS_l0 l hl l.length _ 0 (by omega) (by simp) (fun j h => by omega)
theorem eqByteS_l0 (l : List Int) (hl : l.length ≤ 281474976710656) : ∀ (d i : Nat), i + d = l.length → Ev (fun k => laws_eqByteS.l0 k l l (i : Int)) true := by
  intro d
  induction d with
  | zero =>
    intro i hi
    refine ev_step (fun k => laws_eqByteS.l0.eq_2 _ _ _ _) ?_
    refine ev_neg (by omega) ?_
    exact ev_now rfl
  | succ d ih =>
    intro i hi
    refine ev_step (fun k => laws_eqByteS.l0.eq_2 _ _ _ _) ?_
    refine ev_pos (by omega) ?_
    refine ev_pos (by omega) ?_
    refine ev_pos (by omega) ?_
    refine ev_pos rfl ?_
    rw [w64s (by omega)]
    exact ih (i + 1) (by omega)
theorem eqByteS_ev (l : List Int) (hl : l.length ≤ 281474976710656) : Ev (fun k => laws_eqByteS.f k l l) true := by
  unfold laws_eqByteS.f
  refine ev_pos rfl ?_
  exact eqByteS_l0 l hl l.length 0 (by omega)
end Go.Proofs.Ytlnppbcifenanaa.S

/- What the reference's CompareBytes comes to: the order of the first unlike bytes, else of the lengths. For all slices that fit memory. -/
set_option linter.unusedVariables false
namespace Go.Proofs.Ytlnppbcifenanaa.S
open Go.RowKit Go.Proofs.YtlnppbcifenanaaW.PrintWords Go.Proofs.YtlnppbcifenanaaW.PrintLast Go.Proofs.YtlnppbcifenanaaW.PrintMore Go.Proofs.Ytlnppbcifenanaa.Base

def cmpL : List Int → List Int → Int
  | [], [] => 0
  | [], _ :: _ => -1
  | _ :: _, [] => 1
  | x :: a, y :: b => if x < y then -1 else if y < x then 1 else cmpL a b
theorem cmpL_zero : ∀ a b : List Int, cmpL a b = 0 ↔ a = b
  | [], [] => by simp [cmpL]
  | [], _ :: _ => by simp [cmpL]
  | _ :: _, [] => by simp [cmpL]
  | x :: a, y :: b => by
    have ih := cmpL_zero a b
    unfold cmpL
    by_cases h : x < y
    · rw [if_pos h]; simp; intro e; omega
    · rw [if_neg h]
      by_cases h2 : y < x
      · rw [if_pos h2]; simp; intro e; omega
      · rw [if_neg h2, ih]
        have : x = y := by omega
        simp [this]
theorem compareBytes_l0 (a b : List Int) (ha : a.length ≤ 281474976710656) (hb : b.length ≤ 281474976710656) : ∀ (d i : Nat), i + d = a.length → i ≤ b.length → Ev (fun k => spec_CompareBytes.l0 k a b (i : Int)) (cmpL (a.drop i) (b.drop i)) := by
  intro d
  induction d with
  | zero =>
    intro i hi hj
    rw [List.drop_of_length_le (l := a) (by omega)]
    refine ev_step (fun k => spec_CompareBytes.l0.eq_2 _ _ _ _) (ev_neg (by omega) ?_)
    refine ev_step (fun k => spec_CompareBytes.j1.eq_2 _ _ _ _ _) (ev_neg (by simp) ?_)
    by_cases h : (a.length : Int) < (b.length : Int)
    · refine ev_pos h ?_
      rw [List.drop_eq_getElem_cons (l := b) (i := i) (by omega)]
      exact ev_now rfl
    · refine ev_neg h (ev_neg (by omega) ?_)
      rw [List.drop_of_length_le (l := b) (by omega)]
      exact ev_now rfl
  | succ d ih =>
    intro i hi hj
    refine ev_step (fun k => spec_CompareBytes.l0.eq_2 _ _ _ _) (ev_pos (by omega) ?_)
    refine ev_step (fun k => spec_CompareBytes.j1.eq_2 _ _ _ _ _) ?_
    rw [List.drop_eq_getElem_cons (l := a) (i := i) (by omega)]
    by_cases h : (i : Int) < (b.length : Int)
    · refine ev_pos (by simpa using h) (ev_pos (by omega) (ev_pos (by omega) (ev_pos h ?_)))
      rw [List.drop_eq_getElem_cons (l := b) (i := i) (by omega), rd_nat a i (by omega), rd_nat b i (by omega)]
      unfold cmpL
      by_cases h1 : a[i] < b[i]
      · rw [if_pos h1]; exact ev_pos h1 (ev_now rfl)
      · rw [if_neg h1]
        refine ev_neg h1 ?_
        by_cases h2 : b[i] < a[i]
        · rw [if_pos h2]; exact ev_pos h2 (ev_now rfl)
        · rw [if_neg h2]
          refine ev_neg h2 ?_
          rw [w64s (by omega)]
          exact ih (i + 1) (by omega) (by omega)
    · refine ev_neg (by simpa using h) ?_
      rw [List.drop_of_length_le (l := b) (by omega)]
      exact ev_neg (by omega) (ev_pos (by omega) (ev_now rfl))
theorem compareBytes_ev (a b : List Int) (ha : a.length ≤ 281474976710656) (hb : b.length ≤ 281474976710656) : Ev (fun k => spec_CompareBytes.f k a b) (cmpL a b) :=
  compareBytes_l0 a b ha hb a.length 0 (by omega) (by omega)
end Go.Proofs.Ytlnppbcifenanaa.S

/- The program's CompareBytes and the reference's answer alike, for every argument. No condition. -/
set_option linter.unusedVariables false
namespace Go.Proofs.Ytlnppbcifenanaa.S
open Go.RowKit Go.Proofs.YtlnppbcifenanaaW.PrintWords Go.Proofs.YtlnppbcifenanaaW.PrintLast Go.Proofs.YtlnppbcifenanaaW.PrintMore Go.Proofs.Ytlnppbcifenanaa.Base

theorem cmpL_v : ∀ a b : List Int, bytes_Compare.v a b = cmpL a b
  | [], [] => rfl
  | [], _ :: _ => rfl
  | _ :: _, [] => rfl
  | x :: a, y :: b => by
    unfold bytes_Compare.v cmpL
    rw [cmpL_v a b]
theorem byt_all {l : List Int} (h : Byt l) : (l.all fun x => decide (0 ≤ x) && decide (x ≤ 255)) = true := by
  rw [List.all_eq_true]
  intro x hx
  have := h x hx
  simp [this.1, this.2]
theorem impl_compare_eq {a b : List Int} (ha : Byt a) (hb : Byt b) : impl_CompareBytes.f a b = some (cmpL a b) := by
  unfold impl_CompareBytes.f bytes_Compare.f
  rw [byt_all ha, byt_all hb]
  simp [cmpL_v]
end Go.Proofs.Ytlnppbcifenanaa.S
namespace Go.Proofs.Ytlnppbcifenanaa.Pure
open Go.RowKit Go.Proofs.Ytlnppbcifenanaa.S Go.Proofs.YtlnppbcifenanaaW.PrintWords Go.Proofs.YtlnppbcifenanaaW.PrintLast Go.Proofs.YtlnppbcifenanaaW.PrintMore Go.Proofs.Ytlnppbcifenanaa.Base

theorem FnExactCompareBytes : laws_FnExactCompareBytes.Pure := by
  intro a b ma za wa mb zb wb
  refine Ev.rounds ?_
  unfold laws_FnExactCompareBytes.f
  by_cases ca : (a.length : Int) > 1048576
  · exact ev_pos ca (ev_now rfl)
  refine ev_neg ca ?_
  by_cases cb : (b.length : Int) > 1048576
  · exact ev_pos cb (ev_now rfl)
  refine ev_neg cb ?_
  have ta := toByteS_ev a (by omega)
  have tb := toByteS_ev b (by omega)
  have ea := eqByteS_ev a (by omega)
  have eb := eqByteS_ev b (by omega)
  have hs := compareBytes_ev a b (by omega) (by omega)
  have hi := impl_compare_eq (byt_of_wf wa) (byt_of_wf wb)
  exact ev_bind ta (ev_bind tb (ev_bind hs (ev_bind ta (ev_bind tb (ev_bind (ev_now hi) (ev_pos rfl (ev_bind ta (ev_bind ea (ev_pos rfl (ev_bind tb (ev_bind eb (ev_pos rfl (ev_now rfl)))))))))))))
end Go.Proofs.Ytlnppbcifenanaa.Pure
