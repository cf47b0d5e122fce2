/- The program's HexOf and the reference's answer alike, for every slice of bytes. No condition. -/
import Derived.Test.YtlnppbcifenanaaPBytes
import Derived.Test.YtlnppbcifenanaaSxLawsFnExactHexOf
set_option linter.unusedVariables false
namespace Go.Proofs.Ytlnppbcifenanaa.S
open Go.RowKit Go.Proofs.YtlnppbcifenanaaW.PrintWords Go.Proofs.YtlnppbcifenanaaW.PrintLast Go.Proofs.YtlnppbcifenanaaW.PrintMore Go.Proofs.Ytlnppbcifenanaa.Base

def hexTab : ByteArray := ⟨#[48, 49, 50, 51, 52, 53, 54, 55, 56, 57, 97, 98, 99, 100, 101, 102]⟩
theorem l1Hex_eq {v : Int} (h0 : 0 ≤ v) (h1 : v < 16) : spec_l1Hex.f v = some (strOfNums [bt hexTab v]) := by
  have h : v = 0 ∨ v = 1 ∨ v = 2 ∨ v = 3 ∨ v = 4 ∨ v = 5 ∨ v = 6 ∨ v = 7 ∨ v = 8 ∨ v = 9 ∨ v = 10 ∨ v = 11 ∨ v = 12 ∨ v = 13 ∨ v = 14 ∨ v = 15 := by omega
  rcases h with rfl | rfl | rfl | rfl | rfl | rfl | rfl | rfl | rfl | rfl | rfl | rfl | rfl | rfl | rfl | rfl <;> rfl
theorem strOfNums_append (a b : List Int) : strOfNums (a ++ b) = strOfNums a ++ strOfNums b := by
  apply ByteArray.ext
  rw [ByteArray.data_append]
  simp [strOfNums]
theorem hexOf_l0 (l : List Int) (hb : Byt l) (hl : l.length ≤ 1048576) : ∀ (d i : Nat) (y : List Int), i + d = l.length → y.length = 2 * i → ∃ r, Ev (fun k => spec_HexOf.l0 k l (strOfNums y) (i : Int)) r ∧ Ev (fun k => impl_HexOf.l0 k y l (l.length : Int) (i : Int)) r := by
  intro d
  induction d with
  | zero =>
    intro i y hi hy
    exact ⟨_, ev_step (fun k => spec_HexOf.l0.eq_2 _ _ _ _) (ev_neg (by omega) (ev_now rfl)), ev_step (fun k => impl_HexOf.l0.eq_2 _ _ _ _ _) (ev_neg (by omega) (ev_now rfl))⟩
  | succ d ih =>
    intro i y hi hy
    have hr := byt_rd hb (i : Int)
    generalize hc : rd l (i : Int) = c at hr
    have e1 : (Int.tdiv c 16) % 256 = c / 16 := by rw [Int.tdiv_eq_ediv_of_nonneg hr.1]; omega
    have e2 : Int.tmod c 16 = c % 16 := Int.tmod_eq_emod_of_nonneg hr.1
    have s1 : ∀ v, (strOfNums [v]).size = 1 := fun v => by rw [strOfNums_size]; rfl
    obtain ⟨r, hs, hi'⟩ := ih (i + 1) (y ++ [bt hexTab (c / 16), bt hexTab (c % 16)]) (by omega) (by simp; omega)
    refine ⟨r, ?_, ?_⟩
    · refine ev_step (fun k => spec_HexOf.l0.eq_2 _ _ _ _) ?_
      refine ev_pos (by omega) (ev_pos (by omega) ?_)
      rw [hc, e1, e2]
      refine ev_bind (ev_now (l1Hex_eq (by omega) (by omega))) ?_
      refine ev_pos (by rw [s1, strOfNums_size]; omega) ?_
      refine ev_bind (ev_now (l1Hex_eq (by omega) (by omega))) ?_
      refine ev_pos (by rw [s1, ByteArray.size_append, s1, strOfNums_size]; omega) ?_
      rw [← strOfNums_append, ← strOfNums_append, w64s (by omega), List.append_assoc]
      exact hs
    · refine ev_step (fun k => impl_HexOf.l0.eq_2 _ _ _ _ _) ?_
      refine ev_pos (by omega) (ev_pos (by omega) (ev_pos (by omega) ?_))
      rw [hc, and15 hr.1 hr.2]
      refine ev_pos (by omega) (ev_pos (by omega) (ev_pos (by omega) (ev_pos (by omega) ?_)))
      refine ev_bind (ev_now rfl) ?_
      refine ev_pos (by simp only [List.length_cons, List.length_nil]; omega) ?_
      rw [w64s (by omega)]
      exact hi'
theorem hexOf_ev (l : List Int) (hb : Byt l) (hl : l.length ≤ 1048576) : ∃ r, Ev (fun k => spec_HexOf.f k l) r ∧ Ev (fun k => impl_HexOf.f k l) r :=
  hexOf_l0 l hb hl l.length 0 [] (by omega) rfl
end Go.Proofs.Ytlnppbcifenanaa.S
namespace Go.Proofs.Ytlnppbcifenanaa.Pure
open Go.RowKit Go.Proofs.Ytlnppbcifenanaa.S Go.Proofs.YtlnppbcifenanaaW.PrintWords Go.Proofs.YtlnppbcifenanaaW.PrintLast Go.Proofs.YtlnppbcifenanaaW.PrintMore Go.Proofs.Ytlnppbcifenanaa.Base

theorem FnExactHexOf : laws_FnExactHexOf.Pure := by
  intro l hm hz hw
  refine Ev.rounds ?_
  unfold laws_FnExactHexOf.f
  by_cases hc : (l.length : Int) > 1048576
  · exact ev_pos hc (ev_now rfl)
  · have ht := toByteS_ev l (by omega)
    have he := eqByteS_ev l (by omega)
    obtain ⟨r, hs, hi⟩ := hexOf_ev l (byt_of_wf hw) (by omega)
    refine ev_neg hc ?_
    refine ev_bind ht (ev_bind hs (ev_bind ht (ev_bind hi (ev_pos rfl ?_))))
    exact ev_bind ht (ev_bind he (ev_pos rfl (ev_now rfl)))
end Go.Proofs.Ytlnppbcifenanaa.Pure
