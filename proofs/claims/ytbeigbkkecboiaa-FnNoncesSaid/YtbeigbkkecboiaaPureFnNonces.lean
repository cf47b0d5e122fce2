import Derived.Test.YtbeigbkkecboiaaShaI
import Derived.Test.YtbeigbkkecboiaaPStr
import Derived.Test.YtbeigbkkecboiaaSxSpecTaggedDigest
import Derived.Test.YtbeigbkkecboiaaSxImplTaggedY
import Derived.Test.YtbeigbkkecboiaaSxImplDigestY
import Derived.Test.YtbeigbkkecboiaaSxSpecDigest
import Derived.Test.YtbeigbkkecboiaaBase
import Derived.Test.YtbeigbkkecboiaaSxImplSmall
import Derived.Test.YtbeigbkkecboiaaSxSpecL1
import Derived.Test.YtbeigbkkecboiaaSxSpecL1
import Derived.Test.YtbeigbkkecboiaaSxImplSmall
import Derived.Test.YtbeigbkkecboiaaSxSpecZerosOf
import Derived.Test.YtbeigbkkecboiaaSxImplZerosOf
import Derived.Test.YtbeigbkkecboiaaSxImplEasiestNonce
import Derived.Test.YtbeigbkkecboiaaSxSpecEasiestNonce
import Derived.Test.YtbeigbkkecboiaaSxImplEasiestY
import Derived.Test.YtbeigbkkecboiaaSxImplSmall
import Derived.Test.YtbeigbkkecboiaaSxImplPutNumber
import Derived.Test.YtbeigbkkecboiaaSxImplSmall
import Derived.Test.YtbeigbkkecboiaaSxSpecL1
import Derived.Test.YtbeigbkkecboiaaSxLawsFnNonces
import Derived.Test.YtbeigbkkecboiaaSxLawsHelp
import Derived.Test.YtbeigbkkecboiaaSxSpecDrawEasiestNonce
import Derived.Test.YtbeigbkkecboiaaSxImplDigest
import Derived.Test.YtbeigbkkecboiaaSxImplWorkOf
/- The digest and the tagged digest, as plain functions: what the program's and the reference's come to. For all bytes that fit. -/
set_option linter.unusedVariables false
namespace Go.Proofs.Ytbeigbkkecboiaa.S
open Go.RowKit Go.Proofs.YtbeigbkkecboiaaW.PrintWords Go.Proofs.YtbeigbkkecboiaaW.PrintLast Go.Proofs.YtbeigbkkecboiaaW.PrintMore Go.Proofs.Ytbeigbkkecboiaa.Base Go.Proofs.Ytbeigbkkecboiaa.Sha

theorem spec_dig {l : List Int} (hl : Byt l) (hn : l.length < 70000000000000) : spec_Digest.f l = some (sha l) := by
  unfold spec_Digest.f
  refine if_pos ?_
  unfold spec_Digest.ok
  rw [Bool.and_eq_true]
  exact ⟨List.all_eq_true.2 (fun x hx => decide_eq_true (hl x hx)), decide_eq_true hn⟩
theorem impl_dig {ls : List (List Int)} (hl : Byt ls.flatten) (hn : ls.flatten.length < 70000000000000) : impl_digest.f ls = some (sha ls.flatten) := by
  unfold impl_digest.f
  refine if_pos ?_
  unfold impl_digest.ok
  rw [Bool.and_eq_true]
  exact ⟨List.all_eq_true.2 (fun x hx => decide_eq_true (hl x hx)), decide_eq_true hn⟩
/-- The tagged digest. -/
def tg (t : ByteArray) (l : List Int) : List Int := sha ([(t.size : Int) % 256] ++ bytesOf t ++ l)
theorem tg_length (t : ByteArray) (l : List Int) : (tg t l).length = 32 := sha_length _
theorem tg_byt (t : ByteArray) (l : List Int) : Byt (tg t l) := sha_byt _
theorem tg_byt0 {t : ByteArray} {l : List Int} (hl : Byt l) : Byt ([(t.size : Int) % 256] ++ bytesOf t ++ l) :=
  byt_append (byt_append (byt_one (by omega) (by omega)) (bytesOf_byt t)) hl
theorem spec_tag {t : ByteArray} {l : List Int} (hl : Byt l) (hn : t.size + l.length < 60000000000000) : spec_TaggedDigest.f t l = some (tg t l) := by
  unfold spec_TaggedDigest.f
  refine spec_dig (tg_byt0 hl) ?_
  rw [List.length_append, List.length_append, bytesOf_length, List.length_singleton]
  omega
theorem impl_tag {t : ByteArray} {ls : List (List Int)} (hl : Byt ls.flatten) (hn : t.size + ls.flatten.length < 60000000000000) (hc : ls.length < 5000000000000) : impl_tagged.f t ls = some (tg t ls.flatten) := by
  unfold impl_tagged.f
  rw [if_pos (by omega)]
  have e : ([[(t.size : Int) % 256], bytesOf t] ++ ls).flatten = [(t.size : Int) % 256] ++ bytesOf t ++ ls.flatten := by simp
  rw [impl_dig (by rw [e]; exact tg_byt0 hl) (by rw [e, List.length_append, List.length_append, bytesOf_length, List.length_singleton]; omega), e]
  rfl
theorem impl_tag1 {t : ByteArray} {l : List Int} (hl : Byt l) (hn : t.size + l.length < 60000000000000) : impl_tagged.f t [l] = some (tg t l) := by
  have e : [l].flatten = l := by simp
  have h := impl_tag (t := t) (ls := [l]) (by rw [e]; exact hl) (by rw [e]; exact hn) (by simp)
  rw [e] at h
  exact h
theorem impl_tag2 {t : ByteArray} {l m : List Int} (hl : Byt l) (hm : Byt m) (hn : t.size + l.length + m.length < 60000000000000) : impl_tagged.f t [l, m] = some (tg t (l ++ m)) := by
  have e : [l, m].flatten = l ++ m := by simp
  have h := impl_tag (t := t) (ls := [l, m]) (by rw [e]; exact byt_append hl hm) (by rw [e, List.length_append]; omega) (by simp)
  rw [e] at h
  exact h
end Go.Proofs.Ytbeigbkkecboiaa.S

/- Is a number in its bounds: the program's and the reference's answer. -/
set_option linter.unusedVariables false
namespace Go.Proofs.Ytbeigbkkecboiaa.S
open Go.RowKit Go.Proofs.YtbeigbkkecboiaaW.PrintWords Go.Proofs.YtbeigbkkecboiaaW.PrintLast Go.Proofs.YtbeigbkkecboiaaW.PrintMore Go.Proofs.Ytbeigbkkecboiaa.Base

theorem in_eq (a b c : Int) : impl_in.f a b c = some (decide (b ≤ a ∧ a ≤ c)) := by
  unfold impl_in.f
  by_cases h : b ≤ a <;> simp [h]
theorem l1In_eq (a b c : Int) : spec_l1In.f a b c = some (decide (b ≤ a ∧ a ≤ c)) := by
  unfold spec_l1In.f
  by_cases h : b ≤ a <;> simp [h]
end Go.Proofs.Ytbeigbkkecboiaa.S

/- A number as seven bytes: the program's number and the reference's l1Put come to the same bytes. For every number. -/
set_option linter.unusedVariables false
namespace Go.Proofs.Ytbeigbkkecboiaa.S
open Go.RowKit Go.Proofs.YtbeigbkkecboiaaW.PrintWords Go.Proofs.YtbeigbkkecboiaaW.PrintLast Go.Proofs.YtbeigbkkecboiaaW.PrintMore Go.Proofs.Ytbeigbkkecboiaa.Base

/-- The seven bytes of a number, the highest first. -/
def num7 (n : Int) : List Int := [n / 281474976710656 % 256, n / 1099511627776 % 256, n / 4294967296 % 256, n / 16777216 % 256, n / 65536 % 256, n / 256 % 256, n % 256]
theorem num7_byt (n : Int) : Byt (num7 n) := by
  intro x hx
  simp only [num7, List.mem_cons, List.not_mem_nil, or_false] at hx
  rcases hx with rfl | rfl | rfl | rfl | rfl | rfl | rfl <;> omega
theorem num7_length (n : Int) : (num7 n).length = 7 := rfl
theorem l1Put_ev (n : Int) : Ev (fun k => spec_l1Put.f k n) (num7 n) := by
  unfold spec_l1Put.f
  refine ev_step (fun k => spec_l1Put.l0.eq_2 _ _ _ _) (ev_pos (by decide +kernel) (ev_pos (by decide +kernel) (ev_pos (by simp) ?_)))
  rw [show wrap64 (6 - 1) = 5 from by decide +kernel]
  refine ev_step (fun k => spec_l1Put.l0.eq_2 _ _ _ _) (ev_pos (by decide +kernel) (ev_pos (by decide +kernel) (ev_pos (by simp) ?_)))
  rw [show wrap64 (5 - 1) = 4 from by decide +kernel]
  refine ev_step (fun k => spec_l1Put.l0.eq_2 _ _ _ _) (ev_pos (by decide +kernel) (ev_pos (by decide +kernel) (ev_pos (by simp) ?_)))
  rw [show wrap64 (4 - 1) = 3 from by decide +kernel]
  refine ev_step (fun k => spec_l1Put.l0.eq_2 _ _ _ _) (ev_pos (by decide +kernel) (ev_pos (by decide +kernel) (ev_pos (by simp) ?_)))
  rw [show wrap64 (3 - 1) = 2 from by decide +kernel]
  refine ev_step (fun k => spec_l1Put.l0.eq_2 _ _ _ _) (ev_pos (by decide +kernel) (ev_pos (by decide +kernel) (ev_pos (by simp) ?_)))
  rw [show wrap64 (2 - 1) = 1 from by decide +kernel]
  refine ev_step (fun k => spec_l1Put.l0.eq_2 _ _ _ _) (ev_pos (by decide +kernel) (ev_pos (by decide +kernel) (ev_pos (by simp) ?_)))
  rw [show wrap64 (1 - 1) = 0 from by decide +kernel]
  refine ev_step (fun k => spec_l1Put.l0.eq_2 _ _ _ _) (ev_pos (by decide +kernel) (ev_pos (by decide +kernel) (ev_pos (by simp) ?_)))
  rw [show wrap64 (0 - 1) = -1 from by decide +kernel]
  refine ev_step (fun k => spec_l1Put.l0.eq_2 _ _ _ _) (ev_neg (by decide +kernel) (ev_now ?_))
  rw [show IntKind.u64.wrap (wrap64 (8 * 6)) = 48 from by decide +kernel, show IntKind.u64.wrap (wrap64 (8 * 5)) = 40 from by decide +kernel, show IntKind.u64.wrap (wrap64 (8 * 4)) = 32 from by decide +kernel, show IntKind.u64.wrap (wrap64 (8 * 3)) = 24 from by decide +kernel, show IntKind.u64.wrap (wrap64 (8 * 2)) = 16 from by decide +kernel, show IntKind.u64.wrap (wrap64 (8 * 1)) = 8 from by decide +kernel, show IntKind.u64.wrap (wrap64 (8 * 0)) = 0 from by decide +kernel]
  simp [shr, num7, IntKind.bits]
theorem number_ev (n : Int) : Ev (fun k => impl_number.f k n) (num7 n) := by
  unfold impl_number.f
  refine ev_pos (by omega) ?_
  refine ev_step (fun k => impl_number.l0.eq_2 _ _ _ _) (ev_pos (by decide +kernel) (ev_pos (by decide +kernel) (ev_pos (by simp) ?_)))
  rw [show wrap64 (6 - 1) = 5 from by decide +kernel]
  refine ev_step (fun k => impl_number.l0.eq_2 _ _ _ _) (ev_pos (by decide +kernel) (ev_pos (by decide +kernel) (ev_pos (by simp) ?_)))
  rw [show wrap64 (5 - 1) = 4 from by decide +kernel]
  refine ev_step (fun k => impl_number.l0.eq_2 _ _ _ _) (ev_pos (by decide +kernel) (ev_pos (by decide +kernel) (ev_pos (by simp) ?_)))
  rw [show wrap64 (4 - 1) = 3 from by decide +kernel]
  refine ev_step (fun k => impl_number.l0.eq_2 _ _ _ _) (ev_pos (by decide +kernel) (ev_pos (by decide +kernel) (ev_pos (by simp) ?_)))
  rw [show wrap64 (3 - 1) = 2 from by decide +kernel]
  refine ev_step (fun k => impl_number.l0.eq_2 _ _ _ _) (ev_pos (by decide +kernel) (ev_pos (by decide +kernel) (ev_pos (by simp) ?_)))
  rw [show wrap64 (2 - 1) = 1 from by decide +kernel]
  refine ev_step (fun k => impl_number.l0.eq_2 _ _ _ _) (ev_pos (by decide +kernel) (ev_pos (by decide +kernel) (ev_pos (by simp) ?_)))
  rw [show wrap64 (1 - 1) = 0 from by decide +kernel]
  refine ev_step (fun k => impl_number.l0.eq_2 _ _ _ _) (ev_pos (by decide +kernel) (ev_pos (by decide +kernel) (ev_pos (by simp) ?_)))
  rw [show wrap64 (0 - 1) = -1 from by decide +kernel]
  refine ev_step (fun k => impl_number.l0.eq_2 _ _ _ _) (ev_neg (by decide +kernel) (ev_now ?_))
  simp [num7, List.replicate]
  omega
end Go.Proofs.Ytbeigbkkecboiaa.S

/- How many bits 0 bytes begin with: the program's ZerosOf and the reference's come to the same number. For every slice of at most 2^40 bytes. -/
set_option linter.unusedVariables false
namespace Go.Proofs.Ytbeigbkkecboiaa.S
open Go.RowKit Go.Proofs.YtbeigbkkecboiaaW.PrintWords Go.Proofs.YtbeigbkkecboiaaW.PrintLast Go.Proofs.YtbeigbkkecboiaaW.PrintMore Go.Proofs.Ytbeigbkkecboiaa.Base

def len8 (c : Int) : Int := if c < 1 then 0 else if c < 2 then 1 else if c < 4 then 2 else if c < 8 then 3 else if c < 16 then 4 else if c < 32 then 5 else if c < 64 then 6 else if c < 128 then 7 else 8
def zerosV : List Int → Int
  | [] => 0
  | c :: l => if c = 0 then 8 + zerosV l else 8 - len8 c
theorem len8_nat : ∀ n : Fin 256, bits_Len8.f (n.val : Int) = some (len8 (n.val : Int)) := by decide +kernel
theorem len8_eq {c : Int} (h0 : 0 ≤ c) (h1 : c ≤ 255) : bits_Len8.f c = some (len8 c) := by
  have h := len8_nat ⟨c.toNat, by omega⟩
  simp only at h
  rw [Int.toNat_of_nonneg h0] at h
  exact h
theorem len8_range (c : Int) : 0 ≤ len8 c ∧ len8 c ≤ 8 := by
  unfold len8
  repeat' split
  all_goals omega
theorem lead_eq {c : Int} (h0 : 0 ≤ c) (h1 : c ≤ 255) : bits_LeadingZeros8.f c = some (8 - len8 c) := by
  unfold bits_LeadingZeros8.f
  have := len8_range c
  rw [len8_eq h0 h1, Option.bind_some, w64 (by omega) (by omega)]
theorem zerosV_range : ∀ l : List Int, 0 ≤ zerosV l ∧ zerosV l ≤ 8 * l.length
  | [] => by simp [zerosV]
  | c :: l => by
    have ih := zerosV_range l
    have := len8_range c
    unfold zerosV
    rw [List.length_cons]
    split <;> omega
theorem impl_zeros_l0 (l : List Int) (hb : Byt l) (hl : l.length ≤ 1099511627776) : ∀ (d i : Nat) (n : Int), i + d = l.length → 0 ≤ n → n ≤ 8 * i → Ev (fun k => impl_ZerosOf.l0 k n l (l.length : Int) (i : Int)) (n + zerosV (l.drop i)) := by
  intro d
  induction d with
  | zero =>
    intro i n hi h0 h1
    rw [List.drop_of_length_le (by omega)]
    exact ev_step (fun k => impl_ZerosOf.l0.eq_2 _ _ _ _ _) (ev_neg (by omega) (ev_now (by simp [zerosV])))
  | succ d ih =>
    intro i n hi h0 h1
    have hr := byt_rd hb (i : Int)
    rw [List.drop_eq_getElem_cons (by omega), ← rd_nat l i (by omega)]
    generalize hc : rd l (i : Int) = c at hr
    have hq := len8_range c
    refine ev_step (fun k => impl_ZerosOf.l0.eq_2 _ _ _ _ _) (ev_pos (by omega) (ev_pos (by omega) (ev_pos (by omega) ?_)))
    rw [hc]
    refine ev_bind (ev_now (lead_eq hr.1 hr.2)) ?_
    rw [w64 (n := n + (8 - len8 c)) (by omega) (by omega), w64s (by omega)]
    unfold zerosV
    by_cases e : c = 0
    · rw [if_pos e]
      refine ev_pos e ?_
      have z : len8 c = 0 := by rw [e]; rfl
      rw [z]
      exact ev_eq (ih (i + 1) (n + (8 - 0)) (by omega) (by omega) (by omega)) (by omega)
    · rw [if_neg e]
      exact ev_neg e (ev_now rfl)
theorem impl_zeros_ev (l : List Int) (hb : Byt l) (hl : l.length ≤ 1099511627776) : Ev (fun k => impl_ZerosOf.f k l) (zerosV l) := by
  have h := impl_zeros_l0 l hb hl l.length 0 0 (by omega) (by omega) (by omega)
  exact ev_eq h (by simp)
theorem spec_zeros_l1 (l : List Int) (hl : l.length ≤ 1099511627776) (i : Nat) (hi : i < l.length) (c : Int) (hc : rd l (i : Int) = c) (h0 : 0 ≤ c) (h1 : c ≤ 255) : ∀ (j : Nat) (n : Int), j ≤ 8 → c < 2 ^ j → 0 ≤ n → n + j ≤ 1152921504606846976 → (c = 0 → ∀ r, Ev (fun k => spec_ZerosOf.l0 k l (n + j) ((i + 1 : Nat) : Int)) r → Ev (fun k => spec_ZerosOf.l1 k l n (i : Int) ((j : Int) - 1)) r) ∧ (c ≠ 0 → Ev (fun k => spec_ZerosOf.l1 k l n (i : Int) ((j : Int) - 1)) (n + j - len8 c)) := by
  intro j
  induction j with
  | zero =>
    intro n _ hlt hn hn2
    have e : c = 0 := by have : (2 : Int) ^ 0 = 1 := rfl; omega
    refine ⟨fun _ r h => ?_, fun h => absurd e h⟩
    refine ev_step (fun k => spec_ZerosOf.l1.eq_2 _ _ _ _ _) (ev_neg (by omega) ?_)
    rw [w64s (by omega)]
    rw [show n + ((0 : Nat) : Int) = n by omega] at h
    exact h
  | succ j ih =>
    intro n hj hlt hn hn2
    have ew : IntKind.u64.wrap (((j + 1 : Nat) : Int) - 1) = (j : Int) := by
      rw [show ((j + 1 : Nat) : Int) - 1 = (j : Int) by omega]
      exact wrap_u rfl (by omega) (by simp [IntKind.bits]; omega)
    have es : shr .u8 c (j : Int) = c / 2 ^ j := by
      unfold shr
      rw [show min (j : Int).toNat IntKind.u8.bits = j by simp [IntKind.bits]; omega]
    have eq : c / 2 ^ j = 0 ∧ c < 2 ^ j ∨ c / 2 ^ j = 1 ∧ c ≠ 0 ∧ len8 c = j + 1 := by
      unfold len8
      have : j = 0 ∨ j = 1 ∨ j = 2 ∨ j = 3 ∨ j = 4 ∨ j = 5 ∨ j = 6 ∨ j = 7 := by omega
      rcases this with rfl | rfl | rfl | rfl | rfl | rfl | rfl | rfl <;> simp only [Int.reducePow, Nat.reduceAdd] at hlt ⊢ <;> omega
    have eb : Go.bits .and .u8 (c / 2 ^ j) 1 = (c / 2 ^ j) % 2 := by
      rcases eq with ⟨e, _⟩ | ⟨e, _⟩ <;> rw [e] <;> rfl
    have st : ∀ r, Ev (fun k => if (c / 2 ^ j) % 2 = 1 then some n else spec_ZerosOf.l1 k l (wrap64 (n + 1)) (i : Int) (wrap64 (((j + 1 : Nat) : Int) - 1 - 1))) r → Ev (fun k => spec_ZerosOf.l1 k l n (i : Int) (((j + 1 : Nat) : Int) - 1)) r := by
      intro r h
      refine ev_step (fun k => spec_ZerosOf.l1.eq_2 _ _ _ _ _) ?_
      rw [ew, hc, es, eb]
      refine ev_pos (by omega) ?_
      refine ev_pos (by omega) ?_
      refine ev_pos (by omega) ?_
      refine ev_pos (by omega) ?_
      exact h
    rcases eq with ⟨e, hc2⟩ | ⟨e, hc2, hc3⟩
    · have hh := ih (n + 1) (by omega) hc2 (by omega) (by omega)
      have e1 : wrap64 (n + 1) = n + 1 := w64 (by omega) (by omega)
      have e2 : wrap64 (((j + 1 : Nat) : Int) - 1 - 1) = (j : Int) - 1 := by rw [w64 (by omega) (by omega)]; omega
      rw [e1, e2] at st
      refine ⟨fun z r h => st r (ev_neg (by rw [e]; decide) (hh.1 z r ?_)), fun z => st _ (ev_neg (by rw [e]; decide) (ev_eq (hh.2 z) (by omega)))⟩
      rw [show n + 1 + (j : Int) = n + ((j + 1 : Nat) : Int) by omega]
      exact h
    · exact ⟨fun z => absurd z hc2, fun _ => st _ (ev_pos (by rw [e]; rfl) (ev_now (by rw [hc3]; congr 1; omega)))⟩
theorem spec_zeros_l0 (l : List Int) (hb : Byt l) (hl : l.length ≤ 1099511627776) : ∀ (d i : Nat) (n : Int), i + d = l.length → 0 ≤ n → n ≤ 8 * i → Ev (fun k => spec_ZerosOf.l0 k l n (i : Int)) (n + zerosV (l.drop i)) := by
  intro d
  induction d with
  | zero =>
    intro i n hi h0 h1
    rw [List.drop_of_length_le (by omega)]
    exact ev_step (fun k => spec_ZerosOf.l0.eq_2 _ _ _ _) (ev_neg (by omega) (ev_now (by simp [zerosV])))
  | succ d ih =>
    intro i n hi h0 h1
    have hr := byt_rd hb (i : Int)
    rw [List.drop_eq_getElem_cons (by omega), ← rd_nat l i (by omega)]
    generalize hc : rd l (i : Int) = c at hr
    refine ev_step (fun k => spec_ZerosOf.l0.eq_2 _ _ _ _) (ev_pos (by omega) ?_)
    have h := spec_zeros_l1 l hl i (by omega) c hc hr.1 hr.2 8 n (by omega) (by simp only [Int.reducePow]; omega) h0 (by omega)
    unfold zerosV
    by_cases e : c = 0
    · rw [if_pos e]
      refine h.1 e _ (ev_eq (ih (i + 1) (n + (8 : Nat)) (by omega) (by omega) (by omega)) (by omega))
    · rw [if_neg e]
      exact ev_eq (h.2 e) (by omega)
theorem spec_zeros_ev (l : List Int) (hb : Byt l) (hl : l.length ≤ 1099511627776) : Ev (fun k => spec_ZerosOf.f k l) (zerosV l) := by
  have h := spec_zeros_l0 l hb hl l.length 0 0 (by omega) (by omega) (by omega)
  exact ev_eq h (by simp)
end Go.Proofs.Ytbeigbkkecboiaa.S

/- The easiest nonce: what the program's search and the reference's come to. For all bytes that fit. -/
set_option linter.unusedVariables false
namespace Go.Proofs.Ytbeigbkkecboiaa.S
open Go.RowKit Go.Proofs.YtbeigbkkecboiaaW.PrintWords Go.Proofs.YtbeigbkkecboiaaW.PrintLast Go.Proofs.YtbeigbkkecboiaaW.PrintMore Go.Proofs.Ytbeigbkkecboiaa.Base Go.Proofs.Ytbeigbkkecboiaa.Sha

/-- How hard a head is with a nonce. -/
def hard (h : List Int) (n : Int) : Int := zerosV (sha (h ++ num7 n))
def easiestV (h : List Int) (z : Int) : Nat → Int → Int × Bool
  | 0, _ => (0, false)
  | d + 1, n => if hard h n ≥ z then (n, true) else easiestV h z d (n + 1)
theorem easiest_l0 (h : List Int) (hh : Byt h) (hl : h.length ≤ 4294967296) (z a t : Int) (ha : 0 ≤ a ∧ a ≤ 1099511627776) (ht : 0 ≤ t ∧ t ≤ 5000) : ∀ (d : Nat) (n : Int), n + d = a + t → 0 ≤ n → Ev (fun k => impl_easiest.l0 k h z a t n) (easiestV h z d n) := by
  intro d
  have hw : wrap64 (a + t) = a + t := w64 (by omega) (by omega)
  induction d with
  | zero =>
    intro n hi _
    exact ev_step (fun k => impl_easiest.l0.eq_2 _ _ _ _ _ _) (ev_neg (by omega) (ev_now rfl))
  | succ d ih =>
    intro n hi hn
    have e : [h, num7 n].flatten = h ++ num7 n := by simp
    have hz := impl_zeros_ev (sha (h ++ num7 n)) (sha_byt _) (by rw [sha_length]; omega)
    refine ev_step (fun k => impl_easiest.l0.eq_2 _ _ _ _ _ _) (ev_pos (by omega) (ev_bind (number_ev n) ?_))
    refine ev_bind (ev_now (show impl_digest.f [h, num7 n] = some (sha (h ++ num7 n)) from by rw [← e]; exact impl_dig (by rw [e]; exact byt_append hh (num7_byt n)) (by rw [e, List.length_append, num7_length]; omega))) (ev_bind hz ?_)
    show Ev _ (if hard h n ≥ z then (n, true) else easiestV h z d (n + 1))
    by_cases g : hard h n ≥ z
    · rw [if_pos g]; exact ev_pos g (ev_now rfl)
    · rw [if_neg g]
      refine ev_neg g ?_
      rw [w64 (n := n + 1) (by omega) (by omega)]
      exact ih (n + 1) (by omega) (by omega)
theorem spec_easiest_l0 (h : List Int) (hh : Byt h) (hl : h.length ≤ 4294967296) (z a t : Int) (ha : 0 ≤ a ∧ a ≤ 1099511627776) (ht : 0 ≤ t ∧ t ≤ 5000) : ∀ (d : Nat) (n : Int), n + d = a + t → 0 ≤ n → Ev (fun k => spec_EasiestNonce.l0 k h z a t n) (if (easiestV h z d n).2 = true then (0, (easiestV h z d n).1) else (4, 0)) := by
  intro d
  have hw : wrap64 (a + t) = a + t := w64 (by omega) (by omega)
  induction d with
  | zero =>
    intro n hi _
    exact ev_step (fun k => spec_EasiestNonce.l0.eq_2 _ _ _ _ _ _) (ev_neg (by omega) (ev_now rfl))
  | succ d ih =>
    intro n hi hn
    have hz := spec_zeros_ev (sha (h ++ num7 n)) (sha_byt _) (by rw [sha_length]; omega)
    refine ev_step (fun k => spec_EasiestNonce.l0.eq_2 _ _ _ _ _ _) (ev_pos (by omega) ?_)
    refine ev_bind (ev_now rfl) (ev_pos (by simp; omega) (ev_bind (ev_now rfl) (ev_bind (l1Put_ev n) (ev_pos (by rw [num7_length]; simp; omega) ?_))))
    refine ev_bind (ev_now (show spec_Digest.f ([] ++ h ++ num7 n) = some (sha (h ++ num7 n)) from spec_dig (byt_append hh (num7_byt n)) (by rw [List.nil_append, List.length_append, num7_length]; omega))) (ev_bind hz ?_)
    show Ev _ (if (if hard h n ≥ z then (n, true) else easiestV h z d (n + 1)).2 = true then (0, (if hard h n ≥ z then (n, true) else easiestV h z d (n + 1)).1) else (4, 0))
    by_cases g : hard h n ≥ z
    · rw [if_pos g]; exact ev_pos g (ev_now rfl)
    · rw [if_neg g]
      refine ev_neg g ?_
      rw [w64 (n := n + 1) (by omega) (by omega)]
      exact ih (n + 1) (by omega) (by omega)
def nonceV (h : List Int) (z a t : Int) : Int × Int := if (0 ≤ z ∧ z ≤ 40) ∧ (0 ≤ a ∧ a ≤ 1099511627776) ∧ (0 ≤ t ∧ t ≤ 5000) then (if (easiestV h z t.toNat a).2 = true then (0, (easiestV h z t.toNat a).1) else (4, 0)) else (3, 0)
theorem impl_EasiestNonce_ev {h : List Int} (hh : Byt h) (hl : h.length ≤ 4294967296) (z a t : Int) : Ev (fun k => impl_EasiestNonce.f k h z a t) (nonceV h z a t) := by
  have bad : ∀ b, b = true → Ev (fun k => impl_EasiestNonce.j0 k h z a t b) (3, 0) := fun b hb => ev_step (fun k => impl_EasiestNonce.j0.eq_2 _ _ _ _ _ _) (ev_pos hb (ev_now rfl))
  have e1 : impl_isZeros.f z = some (decide (0 ≤ z ∧ z ≤ 40)) := by unfold impl_isZeros.f; rw [in_eq]; rfl
  unfold impl_EasiestNonce.f nonceV
  refine ev_bind (ev_now e1) ?_
  by_cases hz : 0 ≤ z ∧ z ≤ 40
  · refine ev_pos (decide_eq_true hz) (ev_bind (ev_now (in_eq _ _ _)) ?_)
    by_cases ha : 0 ≤ a ∧ a ≤ 1099511627776
    · refine ev_pos (decide_eq_true ha) (ev_bind (ev_now (in_eq _ _ _)) ?_)
      by_cases ht : 0 ≤ t ∧ t ≤ 5000
      · rw [if_pos ⟨hz, ha, ht⟩]
        refine ev_step (fun k => impl_EasiestNonce.j0.eq_2 _ _ _ _ _ _) (ev_neg (by rw [decide_eq_true ht]; decide) (ev_bind (easiest_l0 h hh hl z a t ha ht t.toNat a (by omega) ha.1) ?_))
        refine ev_now ?_
        split <;> rfl
      · rw [if_neg (fun c => ht c.2.2)]
        exact bad _ (by rw [decide_eq_false ht]; rfl)
    · rw [if_neg (fun c => ha c.2.1)]
      exact ev_neg (by simpa using ha) (bad _ rfl)
  · rw [if_neg (fun c => hz c.1)]
    exact ev_neg (by simpa using hz) (bad _ rfl)
theorem spec_EasiestNonce_ev {h : List Int} (hh : Byt h) (hl : h.length ≤ 4294967296) (z a t : Int) : Ev (fun k => spec_EasiestNonce.f k h z a t) (nonceV h z a t) := by
  have bad : ∀ b, b = true → Ev (fun k => spec_EasiestNonce.j0 k h z a t b) (3, 0) := fun b hb => ev_step (fun k => spec_EasiestNonce.j0.eq_2 _ _ _ _ _ _) (ev_pos hb (ev_now rfl))
  unfold spec_EasiestNonce.f nonceV
  refine ev_bind (ev_now (l1In_eq _ _ _)) ?_
  by_cases hz : 0 ≤ z ∧ z ≤ 40
  · refine ev_pos (decide_eq_true hz) (ev_bind (ev_now (l1In_eq _ _ _)) ?_)
    by_cases ha : 0 ≤ a ∧ a ≤ 1099511627776
    · refine ev_pos (decide_eq_true ha) (ev_bind (ev_now (l1In_eq _ _ _)) ?_)
      by_cases ht : 0 ≤ t ∧ t ≤ 5000
      · rw [if_pos ⟨hz, ha, ht⟩]
        exact ev_step (fun k => spec_EasiestNonce.j0.eq_2 _ _ _ _ _ _) (ev_neg (by rw [decide_eq_true ht]; decide) (spec_easiest_l0 h hh hl z a t ha ht t.toNat a (by omega) ha.1))
      · rw [if_neg (fun c => ht c.2.2)]
        exact bad _ (by rw [decide_eq_false ht]; rfl)
    · rw [if_neg (fun c => ha c.2.1)]
      exact ev_neg (by simpa using ha) (bad _ rfl)
  · rw [if_neg (fun c => hz c.1)]
    exact ev_neg (by simpa using hz) (bad _ rfl)
end Go.Proofs.Ytbeigbkkecboiaa.S

/- PutNumber of a number in its bounds. -/
set_option linter.unusedVariables false
namespace Go.Proofs.Ytbeigbkkecboiaa.S
open Go.RowKit Go.Proofs.YtbeigbkkecboiaaW.PrintWords Go.Proofs.YtbeigbkkecboiaaW.PrintLast Go.Proofs.YtbeigbkkecboiaaW.PrintMore Go.Proofs.Ytbeigbkkecboiaa.Base
theorem impl_put_ev {n : Int} (h0 : 0 ≤ n) (h1 : n ≤ 72057594037927935) : Ev (fun k => impl_PutNumber.f k n) (0, num7 n) := by
  unfold impl_PutNumber.f
  refine ev_bind (ev_now (a := impl_isNumber.f n) (r := true) ?_) (ev_pos rfl (ev_bind (number_ev n) (ev_now rfl)))
  unfold impl_isNumber.f
  rw [in_eq]
  simp [h0, h1]
end Go.Proofs.Ytbeigbkkecboiaa.S

/- What the reference's draws come to, as far as the laws need it: each ends, in bounds. For every code that fits. -/
set_option linter.unusedVariables false
namespace Go.Proofs.Ytbeigbkkecboiaa.S
open Go.RowKit Go.Proofs.YtbeigbkkecboiaaW.PrintWords Go.Proofs.YtbeigbkkecboiaaW.PrintLast Go.Proofs.YtbeigbkkecboiaaW.PrintMore Go.Proofs.Ytbeigbkkecboiaa.Base

theorem tmod_range {a n : Int} (h0 : 0 ≤ a) (h1 : 1 ≤ n) : 0 ≤ Int.tmod a n ∧ Int.tmod a n < n := by
  rw [Int.tmod_eq_emod_of_nonneg h0]
  exact ⟨Int.emod_nonneg _ (by omega), Int.emod_lt_of_pos _ (by omega)⟩
theorem next_ok {c : List Int} (hc : Byt c) {at_ : Int} (h0 : 0 ≤ at_) (h1 : at_ ≤ 1099511627776) (n : Int) : ∃ v, spec_l1Next.f c at_ n = some (v, at_ + 1) ∧ 0 ≤ v ∧ (v < n ∨ v = 0) := by
  unfold spec_l1Next.f
  rw [w64 (n := at_ + 1) (by omega) (by omega), w64 (n := at_ + 1 - 1) (by omega) (by omega), show at_ + 1 - 1 = at_ by omega]
  by_cases hn : n < 1
  · exact ⟨0, by rw [if_pos hn], by omega, .inr rfl⟩
  rw [if_neg hn]
  by_cases hl : (c.length : Int) = 0
  · rw [if_pos hl, if_neg (by omega), w64 (n := at_ * 7) (by omega) (by omega)]
    have := tmod_range (a := at_ * 7) (n := n) (by omega) (by omega)
    exact ⟨_, rfl, this.1, .inl this.2⟩
  rw [if_neg hl]
  have hp := tmod_range (a := at_) (n := (c.length : Int)) h0 (by omega)
  have hp2 := tmod_range (a := at_ + 1) (n := (c.length : Int)) (by omega) (by omega)
  have hq : 0 ≤ Int.tdiv at_ (c.length : Int) ∧ Int.tdiv at_ (c.length : Int) ≤ at_ := by
    rw [Int.tdiv_eq_ediv_of_nonneg h0]
    exact ⟨Int.ediv_nonneg h0 (by omega), Int.ediv_le_self _ h0⟩
  rw [if_pos hp.1, if_pos hp.2]
  have hb1 := byt_rd hc (Int.tmod at_ (c.length : Int))
  generalize rd c (Int.tmod at_ (c.length : Int)) = b1 at *
  generalize Int.tdiv at_ (c.length : Int) = q at *
  rw [w64 (n := b1) (by omega) (by omega), w64 (n := q) (by omega) (by omega), w64 (n := q * 37) (by omega) (by omega), w64 (n := b1 + q * 37) (by omega) (by omega)]
  by_cases hg : n > 200
  · rw [if_pos hg, w64 (n := at_ + 1) (by omega) (by omega), if_pos hp2.1, if_pos hp2.2, if_neg (by omega)]
    have hb2 := byt_rd hc (Int.tmod (at_ + 1) (c.length : Int))
    generalize rd c (Int.tmod (at_ + 1) (c.length : Int)) = b2 at *
    rw [w64 (n := b2) (by omega) (by omega), w64 (n := b2 * 13) (by omega) (by omega), w64 (n := (b1 + q * 37) * 251) (by omega) (by omega), w64 (n := (b1 + q * 37) * 251 + b2 * 13) (by omega) (by omega), w64 (n := (b1 + q * 37) * 251 + b2 * 13 + at_) (by omega) (by omega)]
    have := tmod_range (a := (b1 + q * 37) * 251 + b2 * 13 + at_) (n := n) (by omega) (by omega)
    exact ⟨_, rfl, this.1, .inl this.2⟩
  · rw [if_neg hg, if_neg (by omega)]
    have := tmod_range (a := b1 + q * 37) (n := n) (by omega) (by omega)
    exact ⟨_, rfl, this.1, .inl this.2⟩
theorem some_l0 {c : List Int} (hc : Byt c) : ∀ (n : Nat) (x : List Int) (at_ : Int), 0 ≤ at_ → at_ + n ≤ 1099511627776 → Byt x → x.length + n ≤ 100000000 → ∃ r, Ev (fun k => spec_l1Some.l0 k (n : Int) x c at_) (r, at_ + n) ∧ Byt r ∧ r.length = x.length + n := by
  intro n
  induction n with
  | zero =>
    intro x at_ h0 h1 hx hl
    exact ⟨x, ev_step (fun k => spec_l1Some.l0.eq_2 _ _ _ _ _) (ev_neg (by omega) (ev_now (by simp))), hx, by omega⟩
  | succ n ih =>
    intro x at_ h0 h1 hx hl
    obtain ⟨v, hv, hv0, _⟩ := next_ok hc h0 (by omega) 256
    obtain ⟨r, hr, hb, hrl⟩ := ih (x ++ [v % 256]) (at_ + 1) (by omega) (by omega) (byt_append hx (byt_one (by omega) (by omega))) (by simp; omega)
    refine ⟨r, ev_step (fun k => spec_l1Some.l0.eq_2 _ _ _ _ _) (ev_pos (by omega) (ev_bind (ev_now hv) (ev_pos (by omega) ?_))), hb, by rw [hrl]; simp; omega⟩
    rw [w64 (by omega) (by omega), show ((n + 1 : Nat) : Int) - 1 = (n : Int) by omega]
    rw [show at_ + ((n + 1 : Nat) : Int) = at_ + 1 + (n : Int) by omega]
    exact hr
theorem some_ok {c : List Int} (hc : Byt c) (n at_ : Int) (h0 : 0 ≤ at_) (h1 : at_ ≤ 1000000000) (hn : n ≤ 100000) : ∃ r a, Ev (fun k => spec_l1Some.f k c at_ n) (r, a) ∧ Byt r ∧ r.length = n.toNat ∧ at_ ≤ a ∧ a ≤ at_ + 100000 := by
  by_cases h : 0 ≤ n
  · obtain ⟨r, hr, hb, hl⟩ := some_l0 hc n.toNat [] at_ h0 (by omega) byt_nil (by simp; omega)
    refine ⟨r, at_ + n.toNat, ?_, hb, by rw [hl]; simp, by omega, by omega⟩
    unfold spec_l1Some.f
    rw [Int.toNat_of_nonneg h] at hr
    rw [Int.toNat_of_nonneg h]
    exact hr
  · refine ⟨[], at_, ?_, byt_nil, by simp; omega, by omega, by omega⟩
    unfold spec_l1Some.f
    exact ev_step (fun k => spec_l1Some.l0.eq_2 _ _ _ _ _) (ev_neg (by omega) (ev_now rfl))
theorem pick_ok {c : List Int} (hc : Byt c) {at_ : Int} (h0 : 0 ≤ at_) (h1 : at_ ≤ 1099511627776) (L : List Int) (hL : 0 < L.length) : ∃ v, spec_l1Pick.f c at_ L = some (v, at_ + 1) ∧ v ∈ L := by
  obtain ⟨v, hv, hv0, hv1⟩ := next_ok hc h0 h1 (L.length : Int)
  unfold spec_l1Pick.f
  rw [hv, Option.bind_some, if_pos hv0, if_pos (by show v < _; omega)]
  refine ⟨rd L v, rfl, ?_⟩
  obtain ⟨j, rfl⟩ := Int.eq_ofNat_of_zero_le hv0
  rw [rd_nat L j (by omega)]
  exact List.getElem_mem _
end Go.Proofs.Ytbeigbkkecboiaa.S

/- The law FnNonces answers true: a nonce that is told is hard enough, and none ahead of it is. No condition. -/
set_option linter.unusedVariables false
namespace Go.Proofs.Ytbeigbkkecboiaa.S
open Go.RowKit Go.Proofs.YtbeigbkkecboiaaW.PrintWords Go.Proofs.YtbeigbkkecboiaaW.PrintLast Go.Proofs.YtbeigbkkecboiaaW.PrintMore Go.Proofs.Ytbeigbkkecboiaa.Base Go.Proofs.Ytbeigbkkecboiaa.Sha

theorem drawNonce_ok {c : List Int} (hc : Byt c) : ∃ h z a t, Ev (fun k => spec_DrawEasiestNonce.f k c) (h, z, a, t) ∧ Byt h ∧ h.length ≤ 9 := by
  obtain ⟨v, hv, hv0, hv1⟩ := next_ok hc (at_ := 0) (by omega) (by omega) 9
  obtain ⟨r, a, hr, hb, hl, ha0, ha1⟩ := some_ok hc v (0 + 1) (by omega) (by omega) (by omega)
  obtain ⟨z, hz, _⟩ := pick_ok hc (at_ := a) (by omega) (by omega) [0, 1, 2, 3, 4, 40, 41, -1] (by decide)
  obtain ⟨u, hu, _⟩ := next_ok hc (at_ := a + 1) (by omega) (by omega) 900
  obtain ⟨f, hf, _⟩ := pick_ok hc (at_ := a + 1 + 1) (by omega) (by omega) [0, u, 1099511627776, 1099511627777, -1] (by simp)
  obtain ⟨t, ht, _⟩ := pick_ok hc (at_ := a + 1 + 1 + 1) (by omega) (by omega) [40, 20, 0, 1, 5001, -1] (by decide)
  refine ⟨r, z, f, t, ?_, hb, by omega⟩
  unfold spec_DrawEasiestNonce.f
  exact ev_bind (ev_now (a := spec_l1Source.f c) (r := (c, 0)) rfl) (ev_bind (ev_now hv) (ev_bind hr (ev_bind (ev_now hz) (ev_bind (ev_now hu) (ev_bind (ev_now hf) (ev_bind (ev_now ht) (ev_now rfl)))))))
theorem easiest_none (h : List Int) (z : Int) : ∀ (d : Nat) (n : Int), (easiestV h z d n).2 = false → ∀ x, n ≤ x → x < n + d → ¬ hard h x ≥ z := by
  intro d
  induction d with
  | zero => intro n _ x h0 h1; omega
  | succ d ih =>
    intro n he x h0 h1
    unfold easiestV at he
    by_cases g : hard h n ≥ z
    · rw [if_pos g] at he; cases he
    · rw [if_neg g] at he
      by_cases e : x = n
      · rw [e]; exact g
      · exact ih (n + 1) he x (by omega) (by omega)
theorem easiest_some (h : List Int) (z : Int) : ∀ (d : Nat) (n : Int), (easiestV h z d n).2 = true → n ≤ (easiestV h z d n).1 ∧ (easiestV h z d n).1 < n + d ∧ hard h (easiestV h z d n).1 ≥ z ∧ ∀ x, n ≤ x → x < (easiestV h z d n).1 → ¬ hard h x ≥ z := by
  intro d
  induction d with
  | zero => intro n he; cases he
  | succ d ih =>
    intro n he
    unfold easiestV at he ⊢
    by_cases g : hard h n ≥ z
    · rw [if_pos g]
      exact ⟨by show n ≤ n; omega, by show n < _; omega, g, fun x h0 h1 => by have : x < n := h1; omega⟩
    · rw [if_neg g] at he ⊢
      obtain ⟨h1, h2, h3, h4⟩ := ih (n + 1) he
      refine ⟨by omega, by omega, h3, fun x hx0 hx1 => ?_⟩
      by_cases e : x = n
      · rw [e]; exact g
      · exact h4 x (by omega) hx1
theorem impl_Digest_eq {l : List Int} (hy : Byt l) (hl : l.length ≤ 4294967296) : impl_Digest.f l = some (sha l) := by
  have e : [l].flatten = l := by simp
  have h := impl_dig (ls := [l]) (by rw [e]; exact hy) (by rw [e]; omega)
  rw [e] at h
  unfold impl_Digest.f
  rw [h]
  rfl
theorem hard_ev {h : List Int} (hh : Byt h) (hl : h.length ≤ 1000000) (n : Int) : impl_Digest.f ([] ++ h ++ num7 n) = some (sha (h ++ num7 n)) ∧ Ev (fun k => impl_ZerosOf.f k (sha (h ++ num7 n))) (hard h n) :=
  ⟨impl_Digest_eq (byt_append hh (num7_byt n)) (by rw [List.nil_append, List.length_append, num7_length]; omega), impl_zeros_ev _ (sha_byt _) (by rw [sha_length]; omega)⟩
theorem nonces_l0 (h : List Int) (hh : Byt h) (hl : h.length ≤ 1000000) (z a t last c v : Int) (r : Bool) (hlast : last ≤ 1099511700000) (hno : ∀ x, a ≤ x → x < last → ¬ hard h x ≥ z) (hend : Ev (fun k => laws_FnNonces.l0 k h z a t last last c v) r) :
    ∀ (d : Nat) (n : Int), n + d = last → a ≤ n → 0 ≤ n → Ev (fun k => laws_FnNonces.l0 k h z a t last n c v) r := by
  intro d
  induction d with
  | zero =>
    intro n hi _ _
    rw [show n = last by omega]
    exact hend
  | succ d ih =>
    intro n hi ha hn
    obtain ⟨hd, hz⟩ := hard_ev hh (by omega) n
    refine ev_step (fun k => laws_FnNonces.l0.eq_2 _ _ _ _ _ _ _ _ _) (ev_pos (by omega) (ev_bind (ev_now rfl) (ev_pos (by simp; omega) (ev_bind (ev_now rfl) (ev_bind (impl_put_ev hn (by omega)) (ev_pos (by simp [num7_length]; omega) (ev_bind (ev_now hd) (ev_bind hz (ev_neg (hno n ha (by omega)) ?_)))))))))
    rw [w64 (n := n + 1) (by omega) (by omega)]
    exact ih (n + 1) (by omega) (by omega) (by omega)
end Go.Proofs.Ytbeigbkkecboiaa.S
namespace Go.Proofs.Ytbeigbkkecboiaa.Pure
open Go.RowKit Go.Proofs.Ytbeigbkkecboiaa.S Go.Proofs.YtbeigbkkecboiaaW.PrintWords Go.Proofs.YtbeigbkkecboiaaW.PrintLast Go.Proofs.YtbeigbkkecboiaaW.PrintMore Go.Proofs.Ytbeigbkkecboiaa.Base Go.Proofs.Ytbeigbkkecboiaa.Sha

theorem FnNonces : laws_FnNonces.Pure := by
  intro l0 _ hsz hwf
  refine Ev.rounds ?_
  have hy := byt_of_wf hwf
  unfold laws_FnNonces.f
  by_cases hc : (l0.length : Int) > 1048576
  · exact ev_bind (ev_now (show laws_lwBig.f l0 = some (decide ((l0.length : Int) > 1048576)) from rfl)) (ev_pos (decide_eq_true hc) (ev_now rfl))
  refine ev_bind (ev_now (show laws_lwBig.f l0 = some (decide ((l0.length : Int) > 1048576)) from rfl)) (ev_neg (by simpa using hc) ?_)
  obtain ⟨h, z, a, t, hd, hh, hl⟩ := drawNonce_ok hy
  have hi := impl_EasiestNonce_ev hh (by omega) z a t
  have hs := spec_EasiestNonce_ev hh (by omega) z a t
  refine ev_bind hd (ev_bind hi ?_)
  by_cases hr : (0 ≤ z ∧ z ≤ 40) ∧ (0 ≤ a ∧ a ≤ 1099511627776) ∧ (0 ≤ t ∧ t ≤ 5000)
  · obtain ⟨rz, ra, rt⟩ := hr
    by_cases g : (easiestV h z t.toNat a).2 = true
    · have e : nonceV h z a t = (0, (easiestV h z t.toNat a).1) := by unfold nonceV; rw [if_pos ⟨rz, ra, rt⟩, if_pos g]
      obtain ⟨g1, g2, g3, g4⟩ := easiest_some h z t.toNat a g
      rw [e]
      generalize (easiestV h z t.toNat a).1 = n at *
      refine ev_neg (show ¬ (0 : Int) = 4 by decide) (ev_pos rfl ?_)
      refine ev_step (fun k => laws_FnNonces.j0.eq_2 _ _ _ _ _ _ _ _) ?_
      refine nonces_l0 h hh (by omega) z a t n 0 n true (by omega) g4 ?_ (n - a).toNat a (by omega) (by omega) (by omega)
      obtain ⟨hdg, hz⟩ := hard_ev hh (by omega) n
      have hw : impl_WorkOf.f z = some (0, shl .i64 1 z) := by
        unfold impl_WorkOf.f impl_isZeros.f
        rw [in_eq]
        simp [rz.1, rz.2]
      have ez : IntKind.u64.wrap z = z := wrap_u rfl rz.1 (by simp [IntKind.bits]; omega)
      refine ev_step (fun k => laws_FnNonces.l0.eq_2 _ _ _ _ _ _ _ _ _) (ev_neg (by omega) (ev_neg (show ¬ (0 : Int) = 4 by decide) ?_))
      refine ev_bind (ev_now rfl) (ev_pos (by simp; omega) ?_)
      refine ev_bind (ev_now rfl) (ev_bind (impl_put_ev (by omega) (by omega)) (ev_pos (by simp [num7_length]; omega) ?_))
      refine ev_bind (ev_now hdg) (ev_pos (by omega) (ev_pos (by rw [w64 (by omega) (by omega)]; omega) ?_))
      refine ev_bind hz (ev_pos g3 (ev_pos (by rw [sha_length]; rfl) (ev_bind (ev_now hw) (ev_pos (by rw [ez]; exact rz.1) (ev_now ?_)))))
      rw [ez]
      simp
    · have e : nonceV h z a t = (4, 0) := by unfold nonceV; rw [if_pos ⟨rz, ra, rt⟩, if_neg g]
      have g4 := easiest_none h z t.toNat a (by simpa using g)
      rw [e] at hs ⊢
      refine ev_pos rfl ?_
      rw [w64 (n := a + t) (by omega) (by omega)]
      refine ev_step (fun k => laws_FnNonces.j0.eq_2 _ _ _ _ _ _ _ _) ?_
      refine nonces_l0 h hh (by omega) z a t (a + t) 4 0 true (by omega) (fun x h0 h1 => g4 x h0 (by omega)) ?_ t.toNat a (by omega) (by omega) (by omega)
      exact ev_step (fun k => laws_FnNonces.l0.eq_2 _ _ _ _ _ _ _ _ _) (ev_neg (by omega) (ev_pos rfl (ev_bind hs (ev_now rfl))))
  · have e : nonceV h z a t = (3, 0) := by unfold nonceV; rw [if_neg hr]
    rw [e] at hs ⊢
    exact ev_neg (show ¬ (3 : Int) = 4 by decide) (ev_neg (show ¬ (3 : Int) = 0 by decide) (ev_bind hs (ev_now rfl)))
end Go.Proofs.Ytbeigbkkecboiaa.Pure
