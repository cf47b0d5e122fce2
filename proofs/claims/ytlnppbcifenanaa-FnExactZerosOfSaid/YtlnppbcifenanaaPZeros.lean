/- How many bits 0 bytes begin with: the program's ZerosOf and the reference's come to the same number. For every slice of at most 2^40 bytes. -/
import Derived.Test.YtlnppbcifenanaaBase
import Derived.Test.YtlnppbcifenanaaSxSpecZerosOf
import Derived.Test.YtlnppbcifenanaaSxImplZerosOf
set_option linter.unusedVariables false
namespace Go.Proofs.Ytlnppbcifenanaa.S
open Go.RowKit Go.Proofs.YtlnppbcifenanaaW.PrintWords Go.Proofs.YtlnppbcifenanaaW.PrintLast Go.Proofs.YtlnppbcifenanaaW.PrintMore Go.Proofs.Ytlnppbcifenanaa.Base

def len8 (c : Int) : Int := if c < 1 then 0 else if c < 2 then 1 else if c < 4 then 2 else if c < 8 then 3 else if c < 16 then 4 else if c < 32 then 5 else if c < 64 then 6 else if c < 128 then 7 else 8
def zerosV : List Int → Int
  | [] => 0
  | c :: l => if c = 0 then 8 + zerosV l else 8 - len8 c
theorem len8_nat : ∀ n : Fin 256, bits_Len8.f (n.val : Int) = some (len8 (n.val : Int)) := by decide +kernel
theorem len8_eq {c : Int} (h0 : 0 ≤ c) (h1 : c ≤ 255) : bits_Len8.f c = some (len8 c) := by
  have h := len8_nat ⟨c.toNat, by omega⟩
  simp only at h
  rw [Int.toNat_of_nonneg h0] at h
  exact h
theorem len8_range (c : Int) : 0 ≤ len8 c ∧ len8 c ≤ 8 := by
  unfold len8
  repeat' split
  all_goals omega
theorem lead_eq {c : Int} (h0 : 0 ≤ c) (h1 : c ≤ 255) : bits_LeadingZeros8.f c = some (8 - len8 c) := by
  unfold bits_LeadingZeros8.f
  have := len8_range c
  rw [len8_eq h0 h1, Option.bind_some, w64 (by omega) (by omega)]
theorem zerosV_range : ∀ l : List Int, 0 ≤ zerosV l ∧ zerosV l ≤ 8 * l.length
  | [] => by simp [zerosV]
  | c :: l => by
    have ih := zerosV_range l
    have := len8_range c
    unfold zerosV
    rw [List.length_cons]
    split <;> omega
theorem impl_zeros_l0 (l : List Int) (hb : Byt l) (hl : l.length ≤ 1099511627776) : ∀ (d i : Nat) (n : Int), i + d = l.length → 0 ≤ n → n ≤ 8 * i → Ev (fun k => impl_ZerosOf.l0 k n l (l.length : Int) (i : Int)) (n + zerosV (l.drop i)) := by
  intro d
  induction d with
  | zero =>
    intro i n hi h0 h1
    rw [List.drop_of_length_le (by omega)]
    exact ev_step (fun k => impl_ZerosOf.l0.eq_2 _ _ _ _ _) (ev_neg (by omega) (ev_now (by simp [zerosV])))
  | succ d ih =>
    intro i n hi h0 h1
    have hr := byt_rd hb (i : Int)
    rw [List.drop_eq_getElem_cons (by omega), ← rd_nat l i (by omega)]
    generalize hc : rd l (i : Int) = c at hr
    have hq := len8_range c
    refine ev_step (fun k => impl_ZerosOf.l0.eq_2 _ _ _ _ _) (ev_pos (by omega) (ev_pos (by omega) (ev_pos (by omega) ?_)))
    rw [hc]
    refine ev_bind (ev_now (lead_eq hr.1 hr.2)) ?_
    rw [w64 (n := n + (8 - len8 c)) (by omega) (by omega), w64s (by omega)]
    unfold zerosV
    by_cases e : c = 0
    · rw [if_pos e]
      refine ev_pos e ?_
      have z : len8 c = 0 := by rw [e]; rfl
      rw [z]
      exact ev_eq (ih (i + 1) (n + (8 - 0)) (by omega) (by omega) (by omega)) (by omega)
    · rw [if_neg e]
      exact ev_neg e (ev_now rfl)
theorem impl_zeros_ev (l : List Int) (hb : Byt l) (hl : l.length ≤ 1099511627776) : Ev (fun k => impl_ZerosOf.f k l) (zerosV l) := by
  have h := impl_zeros_l0 l hb hl l.length 0 0 (by omega) (by omega) (by omega)
  exact ev_eq h (by simp)
theorem spec_zeros_l1 (l : List Int) (hl : l.length ≤ 1099511627776) (i : Nat) (hi : i < l.length) (c : Int) (hc : rd l (i : Int) = c) (h0 : 0 ≤ c) (h1 : c ≤ 255) : ∀ (j : Nat) (n : Int), j ≤ 8 → c < 2 ^ j → 0 ≤ n → n + j ≤ 1152921504606846976 → (c = 0 → ∀ r, Ev (fun k => spec_ZerosOf.l0 k l (n + j) ((i + 1 : Nat) : Int)) r → Ev (fun k => spec_ZerosOf.l1 k l n (i : Int) ((j : Int) - 1)) r) ∧ (c ≠ 0 → Ev (fun k => spec_ZerosOf.l1 k l n (i : Int) ((j : Int) - 1)) (n + j - len8 c)) := by
  intro j
  induction j with
  | zero =>
    intro n _ hlt hn hn2
    have e : c = 0 := by have : (2 : Int) ^ 0 = 1 := rfl; omega
    refine ⟨fun _ r h => ?_, fun h => absurd e h⟩
    refine ev_step (fun k => spec_ZerosOf.l1.eq_2 _ _ _ _ _) (ev_neg (by omega) ?_)
    rw [w64s (by omega)]
    rw [show n + ((0 : Nat) : Int) = n by omega] at h
    exact h
  | succ j ih =>
    intro n hj hlt hn hn2
    have ew : IntKind.u64.wrap (((j + 1 : Nat) : Int) - 1) = (j : Int) := by
      rw [show ((j + 1 : Nat) : Int) - 1 = (j : Int) by omega]
      exact wrap_u rfl (by omega) (by simp [IntKind.bits]; omega)
    have es : shr .u8 c (j : Int) = c / 2 ^ j := by
      unfold shr
      rw [show min (j : Int).toNat IntKind.u8.bits = j by simp [IntKind.bits]; omega]
    have eq : c / 2 ^ j = 0 ∧ c < 2 ^ j ∨ c / 2 ^ j = 1 ∧ c ≠ 0 ∧ len8 c = j + 1 := by
      unfold len8
      have : j = 0 ∨ j = 1 ∨ j = 2 ∨ j = 3 ∨ j = 4 ∨ j = 5 ∨ j = 6 ∨ j = 7 := by omega
      rcases this with rfl | rfl | rfl | rfl | rfl | rfl | rfl | rfl <;> simp only [Int.reducePow, Nat.reduceAdd] at hlt ⊢ <;> omega
    have eb : Go.bits .and .u8 (c / 2 ^ j) 1 = (c / 2 ^ j) % 2 := by
      rcases eq with ⟨e, _⟩ | ⟨e, _⟩ <;> rw [e] <;> rfl
    have st : ∀ r, Ev (fun k => if (c / 2 ^ j) % 2 = 1 then some n else spec_ZerosOf.l1 k l (wrap64 (n + 1)) (i : Int) (wrap64 (((j + 1 : Nat) : Int) - 1 - 1))) r → Ev (fun k => spec_ZerosOf.l1 k l n (i : Int) (((j + 1 : Nat) : Int) - 1)) r := by
      intro r h
      refine ev_step (fun k => spec_ZerosOf.l1.eq_2 _ _ _ _ _) ?_
      rw [ew, hc, es, eb]
      refine ev_pos (by omega) ?_
      refine ev_pos (by omega) ?_
      refine ev_pos (by omega) ?_
      refine ev_pos (by omega) ?_
      exact h
    rcases eq with ⟨e, hc2⟩ | ⟨e, hc2, hc3⟩
    · have hh := ih (n + 1) (by omega) hc2 (by omega) (by omega)
      have e1 : wrap64 (n + 1) = n + 1 := w64 (by omega) (by omega)
      have e2 : wrap64 (((j + 1 : Nat) : Int) - 1 - 1) = (j : Int) - 1 := by rw [w64 (by omega) (by omega)]; omega
      rw [e1, e2] at st
      refine ⟨fun z r h => st r (ev_neg (by rw [e]; decide) (hh.1 z r ?_)), fun z => st _ (ev_neg (by rw [e]; decide) (ev_eq (hh.2 z) (by omega)))⟩
      rw [show n + 1 + (j : Int) = n + ((j + 1 : Nat) : Int) by omega]
      exact h
    · exact ⟨fun z => absurd z hc2, fun _ => st _ (ev_pos (by rw [e]; rfl) (ev_now (by rw [hc3]; congr 1; omega)))⟩
theorem spec_zeros_l0 (l : List Int) (hb : Byt l) (hl : l.length ≤ 1099511627776) : ∀ (d i : Nat) (n : Int), i + d = l.length → 0 ≤ n → n ≤ 8 * i → Ev (fun k => spec_ZerosOf.l0 k l n (i : Int)) (n + zerosV (l.drop i)) := by
  intro d
  induction d with
  | zero =>
    intro i n hi h0 h1
    rw [List.drop_of_length_le (by omega)]
    exact ev_step (fun k => spec_ZerosOf.l0.eq_2 _ _ _ _) (ev_neg (by omega) (ev_now (by simp [zerosV])))
  | succ d ih =>
    intro i n hi h0 h1
    have hr := byt_rd hb (i : Int)
    rw [List.drop_eq_getElem_cons (by omega), ← rd_nat l i (by omega)]
    generalize hc : rd l (i : Int) = c at hr
    refine ev_step (fun k => spec_ZerosOf.l0.eq_2 _ _ _ _) (ev_pos (by omega) ?_)
    have h := spec_zeros_l1 l hl i (by omega) c hc hr.1 hr.2 8 n (by omega) (by simp only [Int.reducePow]; omega) h0 (by omega)
    unfold zerosV
    by_cases e : c = 0
    · rw [if_pos e]
      refine h.1 e _ (ev_eq (ih (i + 1) (n + (8 : Nat)) (by omega) (by omega) (by omega)) (by omega))
    · rw [if_neg e]
      exact ev_eq (h.2 e) (by omega)
theorem spec_zeros_ev (l : List Int) (hb : Byt l) (hl : l.length ≤ 1099511627776) : Ev (fun k => spec_ZerosOf.f k l) (zerosV l) := by
  have h := spec_zeros_l0 l hb hl l.length 0 0 (by omega) (by omega) (by omega)
  exact ev_eq h (by simp)
end Go.Proofs.Ytlnppbcifenanaa.S
