/- The program's BytesOfHex and the reference's answer alike, for every text, in new memory. No condition. -/
import Derived.Test.YtmmhghddldhogaaPBytesOfHex
import Derived.Test.YtmmhghddldhogaaPBytesResult
import Derived.Test.YtmmhghddldhogaaSxLawsFnExactBytesOfHex
set_option linter.unusedVariables false
namespace Go.Proofs.Ytmmhghddldhogaa.S
open Go.RowKit Go.Proofs.YtmmhghddldhogaaW.PrintWords Go.Proofs.YtmmhghddldhogaaW.PrintLast Go.Proofs.YtmmhghddldhogaaW.PrintMore Go.Proofs.Ytmmhghddldhogaa.Base

theorem l1Digit_nat : ∀ n : Fin 256, spec_l1Digit.f 1 (n.val : Int) = some (if good (n.val : Int) then digV (n.val : Int) else -1) := by decide +kernel
theorem l1Digit_ev {c : Int} (h0 : 0 ≤ c) (h1 : c ≤ 255) : Ev (fun k => spec_l1Digit.f k c) (if good c then digV c else -1) := by
  have h := l1Digit_nat ⟨c.toNat, by omega⟩
  simp only at h
  rw [Int.toNat_of_nonneg h0] at h
  exact Ev.of (fun k => spec_l1Digit.mono c k) h
theorem spec_bytesOfHex_l0 (s : ByteArray) (hs : s.size ≤ 4000) (he : s.size % 2 = 0) : ∀ (d i : Nat) (y : List Int), i + 2 * d = s.size → y.length ≤ i → Ev (fun k => spec_BytesOfHex.l0 k s (i : Int) 0 y) (if hexGood ((Go.Proofs.YtmmhghddldhogaaW.PrintWords.bytesOf s).drop i) = true then (0, y ++ decV ((Go.Proofs.YtmmhghddldhogaaW.PrintWords.bytesOf s).drop i)) else (5, [])) := by
  intro d
  induction d with
  | zero =>
    intro i y hi hy
    have hbl : (Go.Proofs.YtmmhghddldhogaaW.PrintWords.bytesOf s).length = s.size := Go.Proofs.YtmmhghddldhogaaW.PrintWords.bytesOf_length s
    rw [List.drop_of_length_le (by omega)]
    exact ev_step (fun k => spec_BytesOfHex.l0.eq_2 _ _ _ _ _) (ev_neg (by omega) (ev_now (by simp [hexGood, decV])))
  | succ d ih =>
    intro i y hi hy
    obtain ⟨hl0, g0⟩ := bt_bytesOf s i (by omega)
    obtain ⟨hl1, g1⟩ := bt_bytesOf s (i + 1) (by omega)
    have r0 := bt_range s (i : Int)
    have r1 := bt_range s ((i + 1 : Nat) : Int)
    rw [List.drop_eq_getElem_cons hl0, List.drop_eq_getElem_cons hl1, g0, g1]
    have e1 : wrap64 ((i : Int) + 1) = ((i + 1 : Nat) : Int) := w64s (by omega)
    have e2 : wrap64 ((i : Int) + 2) = ((i + 2 : Nat) : Int) := by unfold wrap64; omega
    refine ev_step (fun k => spec_BytesOfHex.l0.eq_2 _ _ _ _ _) ?_
    rw [e1, e2]
    refine ev_pos (by omega) (ev_pos (by omega) (ev_bind (l1Digit_ev r0.1 r0.2) (ev_pos (by omega) (ev_pos (by omega) (ev_bind (l1Digit_ev r1.1 r1.2) ?_)))))
    clear g0 g1 r0 r1
    generalize bt s (i : Int) = A
    generalize bt s ((i + 1 : Nat) : Int) = B
    have d0 := digV_range A
    have d1 := digV_range B
    simp only [hexGood, decV]
    by_cases c0 : good A
    · rw [if_pos c0]
      refine ev_neg (by omega) ?_
      by_cases c1 : good B
      · rw [if_pos c1]
        refine ev_neg (by omega) (ev_pos (by omega) ?_)
        rw [w64 (n := 16 * digV A) (by omega) (by omega), w64 (n := 16 * digV A + digV B) (by omega) (by omega), Int.emod_eq_of_lt (by omega) (by omega)]
        refine ev_eq (ih (i + 2) _ (by omega) (by simp; omega)) ?_
        simp only [c0, c1, decide_true, Bool.true_and, List.append_assoc, List.cons_append, List.nil_append]
      · rw [if_neg c1]
        exact ev_pos (by omega) (ev_now (by simp [c1]))
    · rw [if_neg c0]
      exact ev_pos (by omega) (ev_now (by simp [c0]))
theorem hexGood_even : ∀ t : List Int, hexGood t = true → t.length % 2 = 0
  | [], _ => rfl
  | [_], h => by simp [hexGood] at h
  | a :: b :: r, h => by
    simp only [hexGood, Bool.and_eq_true] at h
    have := hexGood_even r h.2.2
    simp only [List.length_cons]
    omega
theorem spec_bytesOfHex_ev (s : ByteArray) (hs : s.size ≤ 140737488351232) : Ev (fun k => spec_BytesOfHex.f k s) (bytesOfHexV (Go.Proofs.YtmmhghddldhogaaW.PrintWords.bytesOf s)) := by
  unfold spec_BytesOfHex.f bytesOfHexV
  have hbl : (Go.Proofs.YtmmhghddldhogaaW.PrintWords.bytesOf s).length = s.size := Go.Proofs.YtmmhghddldhogaaW.PrintWords.bytesOf_length s
  rw [hbl]
  by_cases h : s.size > 4000
  · rw [if_pos h]; exact ev_pos (by omega) (ev_now rfl)
  · rw [if_neg h]
    refine ev_neg (by omega) ?_
    by_cases o : s.size % 2 = 1
    · have g : ¬ hexGood (Go.Proofs.YtmmhghddldhogaaW.PrintWords.bytesOf s) = true := fun g => by have := hexGood_even _ g; omega
      rw [if_neg g]
      exact ev_pos (by omega) (ev_now rfl)
    · exact ev_neg (by omega) (spec_bytesOfHex_l0 s (by omega) (by omega) (s.size / 2) 0 [] (by omega) (by simp))
end Go.Proofs.Ytmmhghddldhogaa.S
namespace Go.Proofs.Ytmmhghddldhogaa.Pure
open Go.RowKit Go.Proofs.Ytmmhghddldhogaa.S Go.Proofs.YtmmhghddldhogaaW.PrintWords Go.Proofs.YtmmhghddldhogaaW.PrintLast Go.Proofs.YtmmhghddldhogaaW.PrintMore Go.Proofs.Ytmmhghddldhogaa.Base

theorem FnExactBytesOfHex : laws_FnExactBytesOfHex.Pure := by
  intro s hsz
  refine Ev.rounds ?_
  unfold laws_FnExactBytesOfHex.f
  by_cases hc : (s.size : Int) > 1048576
  · exact ev_pos hc (ev_now rfl)
  refine ev_neg hc ?_
  have hs := spec_bytesOfHex_ev s hsz
  have hi := impl_bytesOfHex_ev s hsz
  have hl := bytesOfHexV_length (Go.Proofs.YtmmhghddldhogaaW.PrintWords.bytesOf s)
  generalize bytesOfHexV (Go.Proofs.YtmmhghddldhogaaW.PrintWords.bytesOf s) = r at hs hi hl
  have he := eqBytesResult_ev r.1 r.2 (by omega)
  have hm := markBytesResult_ev r.1 r.2 (by omega)
  have hh := heldBytesResult_ev r.1 r.2.length (by omega)
  refine ev_bind hs (ev_bind hi (ev_bind he (ev_pos rfl (ev_bind hm (ev_bind hh (ev_neg (by omega) (ev_pos rfl ?_)))))))
  exact ev_bind hi (ev_bind he (ev_pos rfl (ev_bind hh (ev_neg (by omega) (ev_pos rfl (ev_now rfl))))))
end Go.Proofs.Ytmmhghddldhogaa.Pure
