import Derived.Test.YtbeigbkkecboiaaShaI
import Derived.Test.YtbeigbkkecboiaaPStr
import Derived.Test.YtbeigbkkecboiaaSxSpecTaggedDigest
import Derived.Test.YtbeigbkkecboiaaSxImplTaggedY
import Derived.Test.YtbeigbkkecboiaaSxImplDigestY
import Derived.Test.YtbeigbkkecboiaaSxSpecDigest
import Derived.Test.YtbeigbkkecboiaaSxImplDigitsOf
import Derived.Test.YtbeigbkkecboiaaSxSpecDigitsOf
import Derived.Test.YtbeigbkkecboiaaBase
import Derived.Test.YtbeigbkkecboiaaSxLawsToByteSY
import Derived.Test.YtbeigbkkecboiaaSxLawsEqByteSY
import Derived.Test.YtbeigbkkecboiaaSxLawsMarkByteSY
import Derived.Test.YtbeigbkkecboiaaSxLawsHeldByteSY
import Derived.Test.YtbeigbkkecboiaaSxLawsToInt64SY
import Derived.Test.YtbeigbkkecboiaaSxLawsEqInt64SY
import Derived.Test.YtbeigbkkecboiaaSxLawsMarkInt64SY
import Derived.Test.YtbeigbkkecboiaaSxLawsHeldInt64SY
import Derived.Test.YtbeigbkkecboiaaSxLawsFnExactDigitsOf
/- The digest and the tagged digest, as plain functions: what the program's and the reference's come to. For all bytes that fit. -/
set_option linter.unusedVariables false
namespace Go.Proofs.Ytbeigbkkecboiaa.S
open Go.RowKit Go.Proofs.YtbeigbkkecboiaaW.PrintWords Go.Proofs.YtbeigbkkecboiaaW.PrintLast Go.Proofs.YtbeigbkkecboiaaW.PrintMore Go.Proofs.Ytbeigbkkecboiaa.Base Go.Proofs.Ytbeigbkkecboiaa.Sha

theorem spec_dig {l : List Int} (hl : Byt l) (hn : l.length < 70000000000000) : spec_Digest.f l = some (sha l) := by
  unfold spec_Digest.f
  refine if_pos ?_
  unfold spec_Digest.ok
  rw [Bool.and_eq_true]
  exact ⟨List.all_eq_true.2 (fun x hx => decide_eq_true (hl x hx)), decide_eq_true hn⟩
theorem impl_dig {ls : List (List Int)} (hl : Byt ls.flatten) (hn : ls.flatten.length < 70000000000000) : impl_digest.f ls = some (sha ls.flatten) := by
  unfold impl_digest.f
  refine if_pos ?_
  unfold impl_digest.ok
  rw [Bool.and_eq_true]
  exact ⟨List.all_eq_true.2 (fun x hx => decide_eq_true (hl x hx)), decide_eq_true hn⟩
/-- The tagged digest. -/
def tg (t : ByteArray) (l : List Int) : List Int := sha ([(t.size : Int) % 256] ++ bytesOf t ++ l)
theorem tg_length (t : ByteArray) (l : List Int) : (tg t l).length = 32 := sha_length _
theorem tg_byt (t : ByteArray) (l : List Int) : Byt (tg t l) := sha_byt _
theorem tg_byt0 {t : ByteArray} {l : List Int} (hl : Byt l) : Byt ([(t.size : Int) % 256] ++ bytesOf t ++ l) :=
  byt_append (byt_append (byt_one (by omega) (by omega)) (bytesOf_byt t)) hl
theorem spec_tag {t : ByteArray} {l : List Int} (hl : Byt l) (hn : t.size + l.length < 60000000000000) : spec_TaggedDigest.f t l = some (tg t l) := by
  unfold spec_TaggedDigest.f
  refine spec_dig (tg_byt0 hl) ?_
  rw [List.length_append, List.length_append, bytesOf_length, List.length_singleton]
  omega
theorem impl_tag {t : ByteArray} {ls : List (List Int)} (hl : Byt ls.flatten) (hn : t.size + ls.flatten.length < 60000000000000) (hc : ls.length < 5000000000000) : impl_tagged.f t ls = some (tg t ls.flatten) := by
  unfold impl_tagged.f
  rw [if_pos (by omega)]
  have e : ([[(t.size : Int) % 256], bytesOf t] ++ ls).flatten = [(t.size : Int) % 256] ++ bytesOf t ++ ls.flatten := by simp
  rw [impl_dig (by rw [e]; exact tg_byt0 hl) (by rw [e, List.length_append, List.length_append, bytesOf_length, List.length_singleton]; omega), e]
  rfl
theorem impl_tag1 {t : ByteArray} {l : List Int} (hl : Byt l) (hn : t.size + l.length < 60000000000000) : impl_tagged.f t [l] = some (tg t l) := by
  have e : [l].flatten = l := by simp
  have h := impl_tag (t := t) (ls := [l]) (by rw [e]; exact hl) (by rw [e]; exact hn) (by simp)
  rw [e] at h
  exact h
theorem impl_tag2 {t : ByteArray} {l m : List Int} (hl : Byt l) (hm : Byt m) (hn : t.size + l.length + m.length < 60000000000000) : impl_tagged.f t [l, m] = some (tg t (l ++ m)) := by
  have e : [l, m].flatten = l ++ m := by simp
  have h := impl_tag (t := t) (ls := [l, m]) (by rw [e]; exact byt_append hl hm) (by rw [e, List.length_append]; omega) (by simp)
  rw [e] at h
  exact h
end Go.Proofs.Ytbeigbkkecboiaa.S

/- The digits of a message: what the program's and the reference's come to. For all bytes that fit. -/
set_option linter.unusedVariables false
namespace Go.Proofs.Ytbeigbkkecboiaa.S
open Go.RowKit Go.Proofs.YtbeigbkkecboiaaW.PrintWords Go.Proofs.YtbeigbkkecboiaaW.PrintLast Go.Proofs.YtbeigbkkecboiaaW.PrintMore Go.Proofs.Ytbeigbkkecboiaa.Base Go.Proofs.Ytbeigbkkecboiaa.Sha

def four4 (c : Int) : List Int := [c / 64 % 4, c / 16 % 4, c / 4 % 4, c % 4]
def cross (c : Int) : Int := 12 - (c / 64 % 4 + c / 16 % 4 + c / 4 % 4 + c % 4)
def digs : List Int → List Int
  | [] => []
  | c :: l => four4 c ++ digs l
def rests : List Int → Int
  | [] => 0
  | c :: l => cross c + rests l
def endsD (n : Int) : List Int := [n / 16, n / 4 % 4, n % 4]
def digitsV (d : List Int) : List Int := digs d ++ endsD (rests d)
theorem cross_range (c : Int) : 0 ≤ cross c ∧ cross c ≤ 12 := by unfold cross; omega
theorem bits_nat : ∀ n : Fin 256, ∀ j : Fin 4, wrap64 (Go.bits .and .u8 (shr .u8 (n.val : Int) (2 * (j.val : Int))) 3) = (n.val : Int) / 4 ^ j.val % 4 := by decide +kernel
theorem bits_at {c : Int} (h0 : 0 ≤ c) (h1 : c ≤ 255) (j : Fin 4) : wrap64 (Go.bits .and .u8 (shr .u8 c (2 * (j.val : Int))) 3) = c / 4 ^ j.val % 4 := by
  have h := bits_nat ⟨c.toNat, by omega⟩ j
  simp only at h
  rw [Int.toNat_of_nonneg h0] at h
  exact h
theorem b6 {c : Int} (h0 : 0 ≤ c) (h1 : c ≤ 255) : wrap64 (Go.bits .and .u8 (shr .u8 c 6) 3) = c / 64 % 4 := bits_at h0 h1 3
theorem b4 {c : Int} (h0 : 0 ≤ c) (h1 : c ≤ 255) : wrap64 (Go.bits .and .u8 (shr .u8 c 4) 3) = c / 16 % 4 := bits_at h0 h1 2
theorem b2 {c : Int} (h0 : 0 ≤ c) (h1 : c ≤ 255) : wrap64 (Go.bits .and .u8 (shr .u8 c 2) 3) = c / 4 % 4 := bits_at h0 h1 1
theorem b0 {c : Int} (h0 : 0 ≤ c) (h1 : c ≤ 255) : wrap64 (Go.bits .and .u8 (shr .u8 c 0) 3) = c % 4 := by
  have h := bits_at h0 h1 0
  simpa using h
theorem four_app (x : List Int) (c : Int) : x ++ [c / 64 % 4] ++ [c / 16 % 4] ++ [c / 4 % 4] ++ [c % 4] = x ++ four4 c := by simp [four4]
theorem impl_l1 {c : Int} (h0 : 0 ≤ c) (h1 : c ≤ 255) (x : List Int) (n : Int) (hx : x.length ≤ 1000) (hn : 0 ≤ n) (hn1 : n ≤ 100000) (t : List Int) (m i r) (h : Ev (fun k => impl_DigitsOf.l0 k (x ++ four4 c) (n + cross c) t m (wrap64 (i + 1))) r) : Ev (fun k => impl_DigitsOf.l1 k x n c 6 t m i) r := by
  refine ev_step (fun k => impl_DigitsOf.l1.eq_2 _ _ _ _ _ _ _ _) (ev_pos (by decide) (ev_pos (by decide) (ev_pos (by omega) ?_)))
  rw [b6 h0 h1, w64 (n := n + 3) (by omega) (by omega), w64 (n := n + 3 - c / 64 % 4) (by omega) (by omega), show wrap64 (6 - 2) = 4 by decide +kernel]
  refine ev_step (fun k => impl_DigitsOf.l1.eq_2 _ _ _ _ _ _ _ _) (ev_pos (by decide) (ev_pos (by decide) (ev_pos (by simp; omega) ?_)))
  rw [b4 h0 h1, w64 (n := n + 3 - c / 64 % 4 + 3) (by omega) (by omega), w64 (n := n + 3 - c / 64 % 4 + 3 - c / 16 % 4) (by omega) (by omega), show wrap64 (4 - 2) = 2 by decide +kernel]
  refine ev_step (fun k => impl_DigitsOf.l1.eq_2 _ _ _ _ _ _ _ _) (ev_pos (by decide) (ev_pos (by decide) (ev_pos (by simp; omega) ?_)))
  rw [b2 h0 h1, w64 (n := n + 3 - c / 64 % 4 + 3 - c / 16 % 4 + 3) (by omega) (by omega), w64 (n := n + 3 - c / 64 % 4 + 3 - c / 16 % 4 + 3 - c / 4 % 4) (by omega) (by omega), show wrap64 (2 - 2) = 0 by decide +kernel]
  refine ev_step (fun k => impl_DigitsOf.l1.eq_2 _ _ _ _ _ _ _ _) (ev_pos (by decide) (ev_pos (by decide) (ev_pos (by simp; omega) ?_)))
  rw [b0 h0 h1, w64 (n := n + 3 - c / 64 % 4 + 3 - c / 16 % 4 + 3 - c / 4 % 4 + 3) (by omega) (by omega), w64 (n := n + 3 - c / 64 % 4 + 3 - c / 16 % 4 + 3 - c / 4 % 4 + 3 - c % 4) (by omega) (by omega), show wrap64 (0 - 2) = -2 by decide +kernel]
  refine ev_step (fun k => impl_DigitsOf.l1.eq_2 _ _ _ _ _ _ _ _) (ev_neg (by decide) ?_)
  rw [four_app, show n + 3 - c / 64 % 4 + 3 - c / 16 % 4 + 3 - c / 4 % 4 + 3 - c % 4 = n + cross c by unfold cross; omega]
  exact h
theorem ends_eq {n : Int} (h0 : 0 ≤ n) (h1 : n ≤ 100000) : ([wrap64 (Int.tdiv n 16), Int.tmod (wrap64 (Int.tdiv n 4)) 4, Int.tmod n 4] : List Int) = endsD n := by
  unfold endsD
  rw [Int.tdiv_eq_ediv_of_nonneg h0, Int.tdiv_eq_ediv_of_nonneg h0, Int.tmod_eq_emod_of_nonneg h0, w64 (n := n / 16) (by omega) (by omega), w64 (n := n / 4) (by omega) (by omega), Int.tmod_eq_emod_of_nonneg (by omega)]
theorem digs_length : ∀ l : List Int, (digs l).length = 4 * l.length
  | [] => rfl
  | c :: l => by
    simp only [digs, four4, List.length_append, List.length_cons, List.length_nil, digs_length l]
    omega
theorem rests_range : ∀ l : List Int, 0 ≤ rests l ∧ rests l ≤ 12 * l.length
  | [] => by simp [rests]
  | c :: l => by
    have := rests_range l
    have := cross_range c
    simp only [rests, List.length_cons]
    omega
theorem drop_rd (l : List Int) (i : Nat) (h : i < l.length) : l.drop i = rd l (i : Int) :: l.drop (i + 1) := by
  rw [rd_nat l i h, List.drop_eq_getElem_cons h]
theorem impl_l0 (t : List Int) (ht : Byt t) (hl : t.length ≤ 100) : ∀ (d i : Nat) (x : List Int) (n : Int), i + d = t.length → x.length ≤ 4 * i → 0 ≤ n → n ≤ 12 * i → Ev (fun k => impl_DigitsOf.l0 k x n t (t.length : Int) (i : Int)) (x ++ digs (t.drop i) ++ endsD (n + rests (t.drop i))) := by
  intro d
  induction d with
  | zero =>
    intro i x n hi hx hn hn1
    refine ev_step (fun k => impl_DigitsOf.l0.eq_2 _ _ _ _ _ _) (ev_neg (by omega) ?_)
    rw [List.drop_of_length_le (by omega), ends_eq hn (by omega)]
    simp only [Option.bind_some, digs, rests, List.append_nil]
    refine ev_now ?_
    rw [if_pos (by simp [endsD]; omega), show n + 0 = n by omega]
  | succ d ih =>
    intro i x n hi hx hn hn1
    have hb := byt_rd ht (i : Int)
    have hc := cross_range (rd t (i : Int))
    refine ev_step (fun k => impl_DigitsOf.l0.eq_2 _ _ _ _ _ _) (ev_pos (by omega) (ev_pos (by omega) (ev_pos (by omega) ?_)))
    refine impl_l1 hb.1 hb.2 x n (by omega) hn (by omega) _ _ _ _ ?_
    rw [w64s (by omega), drop_rd t i (by omega)]
    have := ih (i + 1) (x ++ four4 (rd t (i : Int))) (n + cross (rd t (i : Int))) (by omega) (by simp [four4]; omega) (by omega) (by omega)
    rw [List.append_assoc x] at this
    rw [show n + rests (rd t (i : Int) :: t.drop (i + 1)) = n + cross (rd t (i : Int)) + rests (t.drop (i + 1)) by simp only [rests]; omega]
    exact this
def msgTag : ByteArray := ⟨#[109, 101, 115, 115, 97, 103, 101]⟩
def digitsOfV (l : List Int) : List Int := digitsV ((tg msgTag l).take 4)
theorem impl_DigitsOf_ev {l : List Int} (hl : Byt l) (hn : l.length ≤ 4294967296) : Ev (fun k => impl_DigitsOf.f k l) (digitsOfV l) := by
  have h4 : msgTag.size = 7 := rfl
  have hlen := tg_length msgTag l
  have hby := tg_byt msgTag l
  unfold impl_DigitsOf.f digitsOfV
  refine ev_bind (ev_now (show impl_tagged.f msgTag [l] = some (tg msgTag l) from impl_tag1 hl (by omega))) ?_
  generalize tg msgTag l = d at hlen hby
  refine ev_pos (by omega) ?_
  simp only [Option.bind_some]
  have ht : (d.take 4).length = 4 := by rw [List.length_take]; omega
  have h := impl_l0 (d.take 4) (byt_take hby 4) (by omega) 4 0 [] 0 (by omega) (by simp) (by omega) (by omega)
  rw [List.drop_zero, List.nil_append, show (0 : Int) + rests (d.take 4) = rests (d.take 4) by omega] at h
  exact h
theorem spec_l1 {d : List Int} {i : Nat} (hi : i < d.length) (hb : Byt d) (x : List Int) (n : Int) (hx : x.length ≤ 1000) (hn : 0 ≤ n) (hn1 : n ≤ 100000) (r) (h : Ev (fun k => spec_DigitsOf.l0 k d (x ++ four4 (rd d (i : Int))) (n + cross (rd d (i : Int))) (wrap64 ((i : Int) + 1))) r) : Ev (fun k => spec_DigitsOf.l1 k d x n (i : Int) 3) r := by
  obtain ⟨h0, h1⟩ := byt_rd hb (i : Int)
  generalize hc : rd d (i : Int) = c at *
  refine ev_step (fun k => spec_DigitsOf.l1.eq_2 _ _ _ _ _ _) (ev_pos (by decide) (ev_pos (by omega) (ev_pos (by omega) (ev_pos (by decide +kernel) (ev_pos (by omega) ?_)))))
  rw [hc, show IntKind.u64.wrap (wrap64 (2 * 3)) = 6 by decide +kernel, b6 h0 h1, w64 (n := n + 3) (by omega) (by omega), w64 (n := n + 3 - c / 64 % 4) (by omega) (by omega), show wrap64 (3 - 1) = 2 by decide +kernel]
  refine ev_step (fun k => spec_DigitsOf.l1.eq_2 _ _ _ _ _ _) (ev_pos (by decide) (ev_pos (by omega) (ev_pos (by omega) (ev_pos (by decide +kernel) (ev_pos (by simp; omega) ?_)))))
  rw [hc, show IntKind.u64.wrap (wrap64 (2 * 2)) = 4 by decide +kernel, b4 h0 h1, w64 (n := n + 3 - c / 64 % 4 + 3) (by omega) (by omega), w64 (n := n + 3 - c / 64 % 4 + 3 - c / 16 % 4) (by omega) (by omega), show wrap64 (2 - 1) = 1 by decide +kernel]
  refine ev_step (fun k => spec_DigitsOf.l1.eq_2 _ _ _ _ _ _) (ev_pos (by decide) (ev_pos (by omega) (ev_pos (by omega) (ev_pos (by decide +kernel) (ev_pos (by simp; omega) ?_)))))
  rw [hc, show IntKind.u64.wrap (wrap64 (2 * 1)) = 2 by decide +kernel, b2 h0 h1, w64 (n := n + 3 - c / 64 % 4 + 3 - c / 16 % 4 + 3) (by omega) (by omega), w64 (n := n + 3 - c / 64 % 4 + 3 - c / 16 % 4 + 3 - c / 4 % 4) (by omega) (by omega), show wrap64 (1 - 1) = 0 by decide +kernel]
  refine ev_step (fun k => spec_DigitsOf.l1.eq_2 _ _ _ _ _ _) (ev_pos (by decide) (ev_pos (by omega) (ev_pos (by omega) (ev_pos (by decide +kernel) (ev_pos (by simp; omega) ?_)))))
  rw [hc, show IntKind.u64.wrap (wrap64 (2 * 0)) = 0 by decide +kernel, b0 h0 h1, w64 (n := n + 3 - c / 64 % 4 + 3 - c / 16 % 4 + 3 - c / 4 % 4 + 3) (by omega) (by omega), w64 (n := n + 3 - c / 64 % 4 + 3 - c / 16 % 4 + 3 - c / 4 % 4 + 3 - c % 4) (by omega) (by omega), show wrap64 (0 - 1) = -1 by decide +kernel]
  refine ev_step (fun k => spec_DigitsOf.l1.eq_2 _ _ _ _ _ _) (ev_neg (by decide) ?_)
  rw [four_app, show n + 3 - c / 64 % 4 + 3 - c / 16 % 4 + 3 - c / 4 % 4 + 3 - c % 4 = n + cross c by unfold cross; omega]
  exact h
theorem spec_l0 (t : List Int) (ht : Byt t) (hl : t.length = 32) : ∀ (d i : Nat) (x : List Int) (n : Int), i + d = 4 → x.length ≤ 4 * i → 0 ≤ n → n ≤ 12 * i → Ev (fun k => spec_DigitsOf.l0 k t x n (i : Int)) (x ++ digs ((t.take 4).drop i) ++ endsD (n + rests ((t.take 4).drop i))) := by
  intro d
  have htl : (t.take 4).length = 4 := by rw [List.length_take]; omega
  induction d with
  | zero =>
    intro i x n hi hx hn hn1
    refine ev_step (fun k => spec_DigitsOf.l0.eq_2 _ _ _ _ _) (ev_neg (by omega) ?_)
    rw [List.drop_of_length_le (by omega), ends_eq hn (by omega)]
    simp only [Option.bind_some, digs, rests, List.append_nil]
    refine ev_now ?_
    rw [if_pos (by simp [endsD]; omega), show n + 0 = n by omega]
  | succ d ih =>
    intro i x n hi hx hn hn1
    have hb := byt_rd ht (i : Int)
    have hc := cross_range (rd t (i : Int))
    have hr : rd (t.take 4) (i : Int) = rd t (i : Int) := by
      rw [rd_nat _ i (by omega), rd_nat _ i (by omega), List.getElem_take]
    refine ev_step (fun k => spec_DigitsOf.l0.eq_2 _ _ _ _ _) (ev_pos (by omega) ?_)
    refine spec_l1 (by omega) ht x n (by omega) hn (by omega) _ ?_
    rw [w64s (by omega), drop_rd (t.take 4) i (by omega), hr]
    have := ih (i + 1) (x ++ four4 (rd t (i : Int))) (n + cross (rd t (i : Int))) (by omega) (by simp [four4]; omega) (by omega) (by omega)
    rw [List.append_assoc x] at this
    rw [show n + rests (rd t (i : Int) :: (t.take 4).drop (i + 1)) = n + cross (rd t (i : Int)) + rests ((t.take 4).drop (i + 1)) by simp only [rests]; omega]
    exact this
theorem spec_DigitsOf_ev {l : List Int} (hl : Byt l) (hn : l.length ≤ 4294967296) : Ev (fun k => spec_DigitsOf.f k l) (digitsOfV l) := by
  have h4 : msgTag.size = 7 := rfl
  have hlen := tg_length msgTag l
  have hby := tg_byt msgTag l
  unfold spec_DigitsOf.f digitsOfV
  refine ev_bind (ev_now (show spec_TaggedDigest.f msgTag l = some (tg msgTag l) from spec_tag hl (by omega))) ?_
  generalize tg msgTag l = d at hlen hby
  have h := spec_l0 d hby hlen 4 0 [] 0 (by omega) (by simp) (by omega) (by omega)
  rw [List.drop_zero, List.nil_append, show (0 : Int) + rests (d.take 4) = rests (d.take 4) by omega] at h
  exact h
theorem digitsOfV_length (l : List Int) : (digitsOfV l).length = 19 := by
  unfold digitsOfV digitsV
  rw [List.length_append, digs_length, List.length_take, tg_length]
  rfl
end Go.Proofs.Ytbeigbkkecboiaa.S

/- What the laws' own helpers on byte slices come to: toByteS copies, eqByteS compares, markByteS and heldByteS count alike. For every slice that fits memory. -/
set_option linter.unusedVariables false
namespace Go.Proofs.Ytbeigbkkecboiaa.S
open Go.RowKit Go.Proofs.YtbeigbkkecboiaaW.PrintWords Go.Proofs.YtbeigbkkecboiaaW.PrintLast Go.Proofs.YtbeigbkkecboiaaW.PrintMore Go.Proofs.Ytbeigbkkecboiaa.Base

theorem toByteS_l0 (l : List Int) (hl : l.length ≤ 281474976710656) : ∀ (d : Nat) (x : List Int) (i : Nat), i + d = l.length → x.length = l.length → (∀ j, j < i → x[j]? = l[j]?) → Ev (fun k => laws_toByteS.l0 k l x (i : Int)) l := by
  intro d
  induction d with
  | zero =>
    intro x i hi hx hj
    refine ev_step (fun k => laws_toByteS.l0.eq_2 _ _ _ _) ?_
    refine ev_neg (by omega) ?_
    rw [fill_all hx (fun j h => hj j (by omega))]
    exact ev_now rfl
  | succ d ih =>
    intro x i hi hx hj
    refine ev_step (fun k => laws_toByteS.l0.eq_2 _ _ _ _) ?_
    refine ev_pos (by omega) ?_
    refine ev_pos (by omega) ?_
    refine ev_pos (by omega) ?_
    rw [w64s (by omega), Int.toNat_natCast]
    exact ih _ (i + 1) (by omega) (by rw [List.length_set]; exact hx) (fill_step (by omega) hx hj)
theorem toByteS_ev (l : List Int) (hl : l.length ≤ 281474976710656) : Ev (fun k => laws_toByteS.f k l) l := by
  unfold laws_toByteS.f
  refine ev_pos (by omega) ?_
  refine ev_pos (by omega) ?_
  exact toByteS_l0 l hl l.length _ 0 (by omega) (by simp) (fun j h => by omega)
theorem eqByteS_l0 (l : List Int) (hl : l.length ≤ 281474976710656) : ∀ (d i : Nat), i + d = l.length → Ev (fun k => laws_eqByteS.l0 k l l (i : Int)) true := by
  intro d
  induction d with
  | zero =>
    intro i hi
    refine ev_step (fun k => laws_eqByteS.l0.eq_2 _ _ _ _) ?_
    refine ev_neg (by omega) ?_
    exact ev_now rfl
  | succ d ih =>
    intro i hi
    refine ev_step (fun k => laws_eqByteS.l0.eq_2 _ _ _ _) ?_
    refine ev_pos (by omega) ?_
    refine ev_pos (by omega) ?_
    refine ev_pos (by omega) ?_
    refine ev_pos rfl ?_
    rw [w64s (by omega)]
    exact ih (i + 1) (by omega)
theorem eqByteS_ev (l : List Int) (hl : l.length ≤ 281474976710656) : Ev (fun k => laws_eqByteS.f k l l) true := by
  unfold laws_eqByteS.f
  refine ev_pos rfl ?_
  exact eqByteS_l0 l hl l.length 0 (by omega)
end Go.Proofs.Ytbeigbkkecboiaa.S

/- What the laws' markByteS and heldByteS come to: places are numbered from a start on, and found numbered so. For every slice and start that fit. -/
set_option linter.unusedVariables false
namespace Go.Proofs.Ytbeigbkkecboiaa.S
open Go.RowKit Go.Proofs.YtbeigbkkecboiaaW.PrintWords Go.Proofs.YtbeigbkkecboiaaW.PrintLast Go.Proofs.YtbeigbkkecboiaaW.PrintMore Go.Proofs.Ytbeigbkkecboiaa.Base

/-- n places numbered from a on. -/
def marked (a : Int) (n : Nat) : List Int := (List.range n).map fun (j : Nat) => (a + (j : Int)) % 256
theorem marked_length (a : Int) (n : Nat) : (marked a n).length = n := by simp [marked]
theorem marked_at (a : Int) (n j : Nat) (h : j < n) : (marked a n)[j]? = some ((a + (j : Int)) % 256) := by
  simp [marked, List.getElem?_map, List.getElem?_range h]
theorem markByteS_l0 (a : Int) (n : Nat) (h0 : 0 ≤ a) (h1 : a + n ≤ 4611686018427387904) : ∀ (d i : Nat) (x : List Int), i + d = n → x.length = n → (∀ j, j < i → x[j]? = (marked a n)[j]?) → Ev (fun k => laws_markByteS.l0 k x (a + (i : Int)) (i : Int)) (a + (n : Int), marked a n) := by
  intro d
  induction d with
  | zero =>
    intro i x hi hx hj
    refine ev_step (fun k => laws_markByteS.l0.eq_2 _ _ _ _) (ev_neg (by omega) ?_)
    have e : x = marked a n := fill_all (by rw [marked_length]; exact hx) (fun j h => hj j (by rw [marked_length] at h; omega))
    rw [e, show i = n by omega]
    exact ev_now rfl
  | succ d ih =>
    intro i x hi hx hj
    refine ev_step (fun k => laws_markByteS.l0.eq_2 _ _ _ _) (ev_pos (by omega) (ev_pos (by omega) ?_))
    rw [w64s (by omega), w64 (n := a + (i : Int) + 1) (by omega) (by omega), Int.toNat_natCast, show a + (i : Int) + 1 = a + ((i + 1 : Nat) : Int) by omega]
    refine ih (i + 1) _ (by omega) (by rw [List.length_set]; exact hx) ?_
    intro j hj'
    rw [List.getElem?_set]
    by_cases e : i = j
    · subst e
      rw [if_pos rfl, if_pos (by omega), marked_at a n i (by omega)]
    · rw [if_neg e]; exact hj j (by omega)
theorem markByteS_ev (l : List Int) (a : Int) (h0 : 0 ≤ a) (h1 : a + l.length ≤ 4611686018427387904) : Ev (fun k => laws_markByteS.f k l a) (a + (l.length : Int), marked a l.length) := by
  have h := markByteS_l0 a l.length h0 h1 l.length 0 l (by omega) rfl (fun j h => by omega)
  rw [show a + ((0 : Nat) : Int) = a by omega] at h
  exact h
theorem heldByteS_l0 (a : Int) (n : Nat) (h0 : 0 ≤ a) (h1 : a + n ≤ 4611686018427387904) : ∀ (d i : Nat), i + d = n → Ev (fun k => laws_heldByteS.l0 k (marked a n) (a + (i : Int)) (i : Int)) (a + (n : Int)) := by
  intro d
  induction d with
  | zero =>
    intro i hi
    refine ev_step (fun k => laws_heldByteS.l0.eq_2 _ _ _ _) (ev_neg (by rw [marked_length]; omega) ?_)
    rw [show i = n by omega]
    exact ev_now rfl
  | succ d ih =>
    intro i hi
    refine ev_step (fun k => laws_heldByteS.l0.eq_2 _ _ _ _) (ev_pos (by rw [marked_length]; omega) (ev_pos (by omega) (ev_pos ?_ ?_)))
    · unfold rd
      rw [List.getD_eq_getElem?_getD, Int.toNat_natCast, marked_at a n i (by omega)]
      rfl
    · rw [w64s (by omega), w64 (n := a + (i : Int) + 1) (by omega) (by omega), show a + (i : Int) + 1 = a + ((i + 1 : Nat) : Int) by omega]
      exact ih (i + 1) (by omega)
theorem heldByteS_ev (n : Nat) (a : Int) (h0 : 0 ≤ a) (h1 : a + n ≤ 4611686018427387904) : Ev (fun k => laws_heldByteS.f k (marked a n) a) (a + (n : Int)) := by
  have h := heldByteS_l0 a n h0 h1 n 0 (by omega)
  rw [show a + ((0 : Nat) : Int) = a by omega] at h
  exact h
end Go.Proofs.Ytbeigbkkecboiaa.S

/- What the laws' own helpers on slices of numbers come to: toInt64S copies, eqInt64S compares, markInt64S and heldInt64S count alike. For every slice that fits memory. -/
set_option linter.unusedVariables false
namespace Go.Proofs.Ytbeigbkkecboiaa.S
open Go.RowKit Go.Proofs.YtbeigbkkecboiaaW.PrintWords Go.Proofs.YtbeigbkkecboiaaW.PrintLast Go.Proofs.YtbeigbkkecboiaaW.PrintMore Go.Proofs.Ytbeigbkkecboiaa.Base

theorem toInt64S_l0 (l : List Int) (hl : l.length ≤ 35184372088832) : ∀ (d : Nat) (x : List Int) (i : Nat), i + d = l.length → x.length = l.length → (∀ j, j < i → x[j]? = l[j]?) → Ev (fun k => laws_toInt64S.l0 k l x (i : Int)) l := by
  intro d
  induction d with
  | zero =>
    intro x i hi hx hj
    refine ev_step (fun k => laws_toInt64S.l0.eq_2 _ _ _ _) ?_
    refine ev_neg (by omega) ?_
    rw [fill_all hx (fun j h => hj j (by omega))]
    exact ev_now rfl
  | succ d ih =>
    intro x i hi hx hj
    refine ev_step (fun k => laws_toInt64S.l0.eq_2 _ _ _ _) ?_
    refine ev_pos (by omega) ?_
    refine ev_pos (by omega) ?_
    refine ev_pos (by omega) ?_
    rw [w64s (by omega), Int.toNat_natCast]
    exact ih _ (i + 1) (by omega) (by rw [List.length_set]; exact hx) (fill_step (by omega) hx hj)
theorem toInt64S_ev (l : List Int) (hl : l.length ≤ 35184372088832) : Ev (fun k => laws_toInt64S.f k l) l := by
  unfold laws_toInt64S.f
  refine ev_pos (by omega) ?_
  refine ev_pos (by omega) ?_
  exact toInt64S_l0 l hl l.length _ 0 (by omega) (by simp) (fun j h => by omega)
theorem eqInt64S_l0 (l : List Int) (hl : l.length ≤ 35184372088832) : ∀ (d i : Nat), i + d = l.length → Ev (fun k => laws_eqInt64S.l0 k l l (i : Int)) true := by
  intro d
  induction d with
  | zero =>
    intro i hi
    refine ev_step (fun k => laws_eqInt64S.l0.eq_2 _ _ _ _) ?_
    refine ev_neg (by omega) ?_
    exact ev_now rfl
  | succ d ih =>
    intro i hi
    refine ev_step (fun k => laws_eqInt64S.l0.eq_2 _ _ _ _) ?_
    refine ev_pos (by omega) ?_
    refine ev_pos (by omega) ?_
    refine ev_pos (by omega) ?_
    refine ev_pos rfl ?_
    rw [w64s (by omega)]
    exact ih (i + 1) (by omega)
theorem eqInt64S_ev (l : List Int) (hl : l.length ≤ 35184372088832) : Ev (fun k => laws_eqInt64S.f k l l) true := by
  unfold laws_eqInt64S.f
  refine ev_pos rfl ?_
  exact eqInt64S_l0 l hl l.length 0 (by omega)
end Go.Proofs.Ytbeigbkkecboiaa.S

/- What the laws' markInt64S and heldInt64S come to: places are numbered from a start on, and found numbered so. For every slice and start that fit. -/
set_option linter.unusedVariables false
namespace Go.Proofs.Ytbeigbkkecboiaa.S
open Go.RowKit Go.Proofs.YtbeigbkkecboiaaW.PrintWords Go.Proofs.YtbeigbkkecboiaaW.PrintLast Go.Proofs.YtbeigbkkecboiaaW.PrintMore Go.Proofs.Ytbeigbkkecboiaa.Base

/-- n places numbered from a on. -/
def markedI (a : Int) (n : Nat) : List Int := (List.range n).map fun (j : Nat) => a + (j : Int)
theorem markedI_length (a : Int) (n : Nat) : (markedI a n).length = n := by simp [markedI]
theorem markedI_at (a : Int) (n j : Nat) (h : j < n) : (markedI a n)[j]? = some (a + (j : Int)) := by
  simp [markedI, List.getElem?_map, List.getElem?_range h]
theorem markInt64S_l0 (a : Int) (n : Nat) (h0 : 0 ≤ a) (h1 : a + n ≤ 4611686018427387904) : ∀ (d i : Nat) (x : List Int), i + d = n → x.length = n → (∀ j, j < i → x[j]? = (markedI a n)[j]?) → Ev (fun k => laws_markInt64S.l0 k x (a + (i : Int)) (i : Int)) (a + (n : Int), markedI a n) := by
  intro d
  induction d with
  | zero =>
    intro i x hi hx hj
    refine ev_step (fun k => laws_markInt64S.l0.eq_2 _ _ _ _) (ev_neg (by omega) ?_)
    have e : x = markedI a n := fill_all (by rw [markedI_length]; exact hx) (fun j h => hj j (by rw [markedI_length] at h; omega))
    rw [e, show i = n by omega]
    exact ev_now rfl
  | succ d ih =>
    intro i x hi hx hj
    refine ev_step (fun k => laws_markInt64S.l0.eq_2 _ _ _ _) (ev_pos (by omega) (ev_pos (by omega) ?_))
    rw [w64s (by omega), w64 (n := a + (i : Int) + 1) (by omega) (by omega), Int.toNat_natCast, show a + (i : Int) + 1 = a + ((i + 1 : Nat) : Int) by omega]
    refine ih (i + 1) _ (by omega) (by rw [List.length_set]; exact hx) ?_
    intro j hj'
    rw [List.getElem?_set]
    by_cases e : i = j
    · subst e
      rw [if_pos rfl, if_pos (by omega), markedI_at a n i (by omega)]
    · rw [if_neg e]; exact hj j (by omega)
theorem markInt64S_ev (l : List Int) (a : Int) (h0 : 0 ≤ a) (h1 : a + l.length ≤ 4611686018427387904) : Ev (fun k => laws_markInt64S.f k l a) (a + (l.length : Int), markedI a l.length) := by
  have h := markInt64S_l0 a l.length h0 h1 l.length 0 l (by omega) rfl (fun j h => by omega)
  rw [show a + ((0 : Nat) : Int) = a by omega] at h
  exact h
theorem heldInt64S_l0 (a : Int) (n : Nat) (h0 : 0 ≤ a) (h1 : a + n ≤ 4611686018427387904) : ∀ (d i : Nat), i + d = n → Ev (fun k => laws_heldInt64S.l0 k (markedI a n) (a + (i : Int)) (i : Int)) (a + (n : Int)) := by
  intro d
  induction d with
  | zero =>
    intro i hi
    refine ev_step (fun k => laws_heldInt64S.l0.eq_2 _ _ _ _) (ev_neg (by rw [markedI_length]; omega) ?_)
    rw [show i = n by omega]
    exact ev_now rfl
  | succ d ih =>
    intro i hi
    refine ev_step (fun k => laws_heldInt64S.l0.eq_2 _ _ _ _) (ev_pos (by rw [markedI_length]; omega) (ev_pos (by omega) (ev_pos ?_ ?_)))
    · unfold rd
      rw [List.getD_eq_getElem?_getD, Int.toNat_natCast, markedI_at a n i (by omega)]
      rfl
    · rw [w64s (by omega), w64 (n := a + (i : Int) + 1) (by omega) (by omega), show a + (i : Int) + 1 = a + ((i + 1 : Nat) : Int) by omega]
      exact ih (i + 1) (by omega)
theorem heldInt64S_ev (n : Nat) (a : Int) (h0 : 0 ≤ a) (h1 : a + n ≤ 4611686018427387904) : Ev (fun k => laws_heldInt64S.f k (markedI a n) a) (a + (n : Int)) := by
  have h := heldInt64S_l0 a n h0 h1 n 0 (by omega)
  rw [show a + ((0 : Nat) : Int) = a by omega] at h
  exact h
end Go.Proofs.Ytbeigbkkecboiaa.S

/- The program's DigitsOf and the reference's answer alike, for every argument, in new memory. No condition. -/
set_option linter.unusedVariables false
namespace Go.Proofs.Ytbeigbkkecboiaa.Pure
open Go.RowKit Go.Proofs.Ytbeigbkkecboiaa.S Go.Proofs.YtbeigbkkecboiaaW.PrintWords Go.Proofs.YtbeigbkkecboiaaW.PrintLast Go.Proofs.YtbeigbkkecboiaaW.PrintMore Go.Proofs.Ytbeigbkkecboiaa.Base Go.Proofs.Ytbeigbkkecboiaa.Sha

theorem FnExactDigitsOf : laws_FnExactDigitsOf.Pure := by
  intro l0 _ hsz hwf
  refine Ev.rounds ?_
  unfold laws_FnExactDigitsOf.f
  by_cases hc : (l0.length : Int) > 1048576
  · exact ev_pos hc (ev_now rfl)
  refine ev_neg hc ?_
  have hy := byt_of_wf hwf
  have hs := spec_DigitsOf_ev hy (by omega)
  have hi := impl_DigitsOf_ev hy (by omega)
  have hn := digitsOfV_length l0
  generalize digitsOfV l0 = r at hs hi hn
  have ht := toByteS_ev l0 (by omega)
  have he := eqInt64S_ev r (by omega)
  have hb := eqByteS_ev l0 (by omega)
  have hk := markByteS_ev l0 1 (by omega) (by omega)
  have hm := markInt64S_ev r 1 (by omega) (by omega)
  have hh := heldInt64S_ev r.length 1 (by omega) (by omega)
  refine ev_bind ht (ev_bind hs (ev_bind ht (ev_bind hi (ev_bind he (ev_pos rfl (ev_bind ht (ev_bind hb (ev_pos rfl (ev_bind hk (ev_neg (by show ¬ (1 + (l0.length : Int)) < 0; omega) (ev_bind he ?_)))))))))))
  refine ev_step (fun k => laws_FnExactDigitsOf.j0.eq_2 _ _ _ _ _) (ev_neg (by decide) (ev_bind hm (ev_bind hh (ev_neg (by omega) (ev_pos rfl ?_)))))
  exact ev_bind ht (ev_bind hi (ev_bind he (ev_pos rfl (ev_bind hh (ev_neg (by omega) (ev_pos rfl (ev_now rfl)))))))
end Go.Proofs.Ytbeigbkkecboiaa.Pure
