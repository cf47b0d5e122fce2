import Derived.Test.YtbeigbkkecboiaaShaI
import Derived.Test.YtbeigbkkecboiaaPStr
import Derived.Test.YtbeigbkkecboiaaSxSpecTaggedDigest
import Derived.Test.YtbeigbkkecboiaaSxImplTaggedY
import Derived.Test.YtbeigbkkecboiaaSxImplDigestY
import Derived.Test.YtbeigbkkecboiaaSxSpecDigest
import Derived.Test.YtbeigbkkecboiaaSxImplDigitsOf
import Derived.Test.YtbeigbkkecboiaaSxSpecDigitsOf
import Derived.Test.YtbeigbkkecboiaaBase
import Derived.Test.YtbeigbkkecboiaaSxSpecL1
import Derived.Test.YtbeigbkkecboiaaSxSpecDrawHexOf
import Derived.Test.YtbeigbkkecboiaaSxLawsFnDigits
import Derived.Test.YtbeigbkkecboiaaSxLawsHelp
import Derived.Test.YtbeigbkkecboiaaSxSpecDrawDigitsOf
/- The digest and the tagged digest, as plain functions: what the program's and the reference's come to. For all bytes that fit. -/
set_option linter.unusedVariables false
namespace Go.Proofs.Ytbeigbkkecboiaa.S
open Go.RowKit Go.Proofs.YtbeigbkkecboiaaW.PrintWords Go.Proofs.YtbeigbkkecboiaaW.PrintLast Go.Proofs.YtbeigbkkecboiaaW.PrintMore Go.Proofs.Ytbeigbkkecboiaa.Base Go.Proofs.Ytbeigbkkecboiaa.Sha

theorem spec_dig {l : List Int} (hl : Byt l) (hn : l.length < 70000000000000) : spec_Digest.f l = some (sha l) := by
  unfold spec_Digest.f
  refine if_pos ?_
  unfold spec_Digest.ok
  rw [Bool.and_eq_true]
  exact ⟨List.all_eq_true.2 (fun x hx => decide_eq_true (hl x hx)), decide_eq_true hn⟩
theorem impl_dig {ls : List (List Int)} (hl : Byt ls.flatten) (hn : ls.flatten.length < 70000000000000) : impl_digest.f ls = some (sha ls.flatten) := by
  unfold impl_digest.f
  refine if_pos ?_
  unfold impl_digest.ok
  rw [Bool.and_eq_true]
  exact ⟨List.all_eq_true.2 (fun x hx => decide_eq_true (hl x hx)), decide_eq_true hn⟩
/-- The tagged digest. -/
def tg (t : ByteArray) (l : List Int) : List Int := sha ([(t.size : Int) % 256] ++ bytesOf t ++ l)
theorem tg_length (t : ByteArray) (l : List Int) : (tg t l).length = 32 := sha_length _
theorem tg_byt (t : ByteArray) (l : List Int) : Byt (tg t l) := sha_byt _
theorem tg_byt0 {t : ByteArray} {l : List Int} (hl : Byt l) : Byt ([(t.size : Int) % 256] ++ bytesOf t ++ l) :=
  byt_append (byt_append (byt_one (by omega) (by omega)) (bytesOf_byt t)) hl
theorem spec_tag {t : ByteArray} {l : List Int} (hl : Byt l) (hn : t.size + l.length < 60000000000000) : spec_TaggedDigest.f t l = some (tg t l) := by
  unfold spec_TaggedDigest.f
  refine spec_dig (tg_byt0 hl) ?_
  rw [List.length_append, List.length_append, bytesOf_length, List.length_singleton]
  omega
theorem impl_tag {t : ByteArray} {ls : List (List Int)} (hl : Byt ls.flatten) (hn : t.size + ls.flatten.length < 60000000000000) (hc : ls.length < 5000000000000) : impl_tagged.f t ls = some (tg t ls.flatten) := by
  unfold impl_tagged.f
  rw [if_pos (by omega)]
  have e : ([[(t.size : Int) % 256], bytesOf t] ++ ls).flatten = [(t.size : Int) % 256] ++ bytesOf t ++ ls.flatten := by simp
  rw [impl_dig (by rw [e]; exact tg_byt0 hl) (by rw [e, List.length_append, List.length_append, bytesOf_length, List.length_singleton]; omega), e]
  rfl
theorem impl_tag1 {t : ByteArray} {l : List Int} (hl : Byt l) (hn : t.size + l.length < 60000000000000) : impl_tagged.f t [l] = some (tg t l) := by
  have e : [l].flatten = l := by simp
  have h := impl_tag (t := t) (ls := [l]) (by rw [e]; exact hl) (by rw [e]; exact hn) (by simp)
  rw [e] at h
  exact h
theorem impl_tag2 {t : ByteArray} {l m : List Int} (hl : Byt l) (hm : Byt m) (hn : t.size + l.length + m.length < 60000000000000) : impl_tagged.f t [l, m] = some (tg t (l ++ m)) := by
  have e : [l, m].flatten = l ++ m := by simp
  have h := impl_tag (t := t) (ls := [l, m]) (by rw [e]; exact byt_append hl hm) (by rw [e, List.length_append]; omega) (by simp)
  rw [e] at h
  exact h
end Go.Proofs.Ytbeigbkkecboiaa.S

/- The digits of a message: what the program's and the reference's come to. For all bytes that fit. -/
set_option linter.unusedVariables false
namespace Go.Proofs.Ytbeigbkkecboiaa.S
open Go.RowKit Go.Proofs.YtbeigbkkecboiaaW.PrintWords Go.Proofs.YtbeigbkkecboiaaW.PrintLast Go.Proofs.YtbeigbkkecboiaaW.PrintMore Go.Proofs.Ytbeigbkkecboiaa.Base Go.Proofs.Ytbeigbkkecboiaa.Sha

def four4 (c : Int) : List Int := [c / 64 % 4, c / 16 % 4, c / 4 % 4, c % 4]
def cross (c : Int) : Int := 12 - (c / 64 % 4 + c / 16 % 4 + c / 4 % 4 + c % 4)
def digs : List Int → List Int
  | [] => []
  | c :: l => four4 c ++ digs l
def rests : List Int → Int
  | [] => 0
  | c :: l => cross c + rests l
def endsD (n : Int) : List Int := [n / 16, n / 4 % 4, n % 4]
def digitsV (d : List Int) : List Int := digs d ++ endsD (rests d)
theorem cross_range (c : Int) : 0 ≤ cross c ∧ cross c ≤ 12 := by unfold cross; omega
theorem bits_nat : ∀ n : Fin 256, ∀ j : Fin 4, wrap64 (Go.bits .and .u8 (shr .u8 (n.val : Int) (2 * (j.val : Int))) 3) = (n.val : Int) / 4 ^ j.val % 4 := by decide +kernel
theorem bits_at {c : Int} (h0 : 0 ≤ c) (h1 : c ≤ 255) (j : Fin 4) : wrap64 (Go.bits .and .u8 (shr .u8 c (2 * (j.val : Int))) 3) = c / 4 ^ j.val % 4 := by
  have h := bits_nat ⟨c.toNat, by omega⟩ j
  simp only at h
  rw [Int.toNat_of_nonneg h0] at h
  exact h
theorem b6 {c : Int} (h0 : 0 ≤ c) (h1 : c ≤ 255) : wrap64 (Go.bits .and .u8 (shr .u8 c 6) 3) = c / 64 % 4 := bits_at h0 h1 3
theorem b4 {c : Int} (h0 : 0 ≤ c) (h1 : c ≤ 255) : wrap64 (Go.bits .and .u8 (shr .u8 c 4) 3) = c / 16 % 4 := bits_at h0 h1 2
theorem b2 {c : Int} (h0 : 0 ≤ c) (h1 : c ≤ 255) : wrap64 (Go.bits .and .u8 (shr .u8 c 2) 3) = c / 4 % 4 := bits_at h0 h1 1
theorem b0 {c : Int} (h0 : 0 ≤ c) (h1 : c ≤ 255) : wrap64 (Go.bits .and .u8 (shr .u8 c 0) 3) = c % 4 := by
  have h := bits_at h0 h1 0
  simpa using h
theorem four_app (x : List Int) (c : Int) : x ++ [c / 64 % 4] ++ [c / 16 % 4] ++ [c / 4 % 4] ++ [c % 4] = x ++ four4 c := by simp [four4]
theorem impl_l1 {c : Int} (h0 : 0 ≤ c) (h1 : c ≤ 255) (x : List Int) (n : Int) (hx : x.length ≤ 1000) (hn : 0 ≤ n) (hn1 : n ≤ 100000) (t : List Int) (m i r) (h : Ev (fun k => impl_DigitsOf.l0 k (x ++ four4 c) (n + cross c) t m (wrap64 (i + 1))) r) : Ev (fun k => impl_DigitsOf.l1 k x n c 6 t m i) r := by
  refine ev_step (fun k => impl_DigitsOf.l1.eq_2 _ _ _ _ _ _ _ _) (ev_pos (by decide) (ev_pos (by decide) (ev_pos (by omega) ?_)))
  rw [b6 h0 h1, w64 (n := n + 3) (by omega) (by omega), w64 (n := n + 3 - c / 64 % 4) (by omega) (by omega), show wrap64 (6 - 2) = 4 by decide +kernel]
  refine ev_step (fun k => impl_DigitsOf.l1.eq_2 _ _ _ _ _ _ _ _) (ev_pos (by decide) (ev_pos (by decide) (ev_pos (by simp; omega) ?_)))
  rw [b4 h0 h1, w64 (n := n + 3 - c / 64 % 4 + 3) (by omega) (by omega), w64 (n := n + 3 - c / 64 % 4 + 3 - c / 16 % 4) (by omega) (by omega), show wrap64 (4 - 2) = 2 by decide +kernel]
  refine ev_step (fun k => impl_DigitsOf.l1.eq_2 _ _ _ _ _ _ _ _) (ev_pos (by decide) (ev_pos (by decide) (ev_pos (by simp; omega) ?_)))
  rw [b2 h0 h1, w64 (n := n + 3 - c / 64 % 4 + 3 - c / 16 % 4 + 3) (by omega) (by omega), w64 (n := n + 3 - c / 64 % 4 + 3 - c / 16 % 4 + 3 - c / 4 % 4) (by omega) (by omega), show wrap64 (2 - 2) = 0 by decide +kernel]
  refine ev_step (fun k => impl_DigitsOf.l1.eq_2 _ _ _ _ _ _ _ _) (ev_pos (by decide) (ev_pos (by decide) (ev_pos (by simp; omega) ?_)))
  rw [b0 h0 h1, w64 (n := n + 3 - c / 64 % 4 + 3 - c / 16 % 4 + 3 - c / 4 % 4 + 3) (by omega) (by omega), w64 (n := n + 3 - c / 64 % 4 + 3 - c / 16 % 4 + 3 - c / 4 % 4 + 3 - c % 4) (by omega) (by omega), show wrap64 (0 - 2) = -2 by decide +kernel]
  refine ev_step (fun k => impl_DigitsOf.l1.eq_2 _ _ _ _ _ _ _ _) (ev_neg (by decide) ?_)
  rw [four_app, show n + 3 - c / 64 % 4 + 3 - c / 16 % 4 + 3 - c / 4 % 4 + 3 - c % 4 = n + cross c by unfold cross; omega]
  exact h
theorem ends_eq {n : Int} (h0 : 0 ≤ n) (h1 : n ≤ 100000) : ([wrap64 (Int.tdiv n 16), Int.tmod (wrap64 (Int.tdiv n 4)) 4, Int.tmod n 4] : List Int) = endsD n := by
  unfold endsD
  rw [Int.tdiv_eq_ediv_of_nonneg h0, Int.tdiv_eq_ediv_of_nonneg h0, Int.tmod_eq_emod_of_nonneg h0, w64 (n := n / 16) (by omega) (by omega), w64 (n := n / 4) (by omega) (by omega), Int.tmod_eq_emod_of_nonneg (by omega)]
theorem digs_length : ∀ l : List Int, (digs l).length = 4 * l.length
  | [] => rfl
  | c :: l => by
    simp only [digs, four4, List.length_append, List.length_cons, List.length_nil, digs_length l]
    omega
theorem rests_range : ∀ l : List Int, 0 ≤ rests l ∧ rests l ≤ 12 * l.length
  | [] => by simp [rests]
  | c :: l => by
    have := rests_range l
    have := cross_range c
    simp only [rests, List.length_cons]
    omega
theorem drop_rd (l : List Int) (i : Nat) (h : i < l.length) : l.drop i = rd l (i : Int) :: l.drop (i + 1) := by
  rw [rd_nat l i h, List.drop_eq_getElem_cons h]
theorem impl_l0 (t : List Int) (ht : Byt t) (hl : t.length ≤ 100) : ∀ (d i : Nat) (x : List Int) (n : Int), i + d = t.length → x.length ≤ 4 * i → 0 ≤ n → n ≤ 12 * i → Ev (fun k => impl_DigitsOf.l0 k x n t (t.length : Int) (i : Int)) (x ++ digs (t.drop i) ++ endsD (n + rests (t.drop i))) := by
  intro d
  induction d with
  | zero =>
    intro i x n hi hx hn hn1
    refine ev_step (fun k => impl_DigitsOf.l0.eq_2 _ _ _ _ _ _) (ev_neg (by omega) ?_)
    rw [List.drop_of_length_le (by omega), ends_eq hn (by omega)]
    simp only [Option.bind_some, digs, rests, List.append_nil]
    refine ev_now ?_
    rw [if_pos (by simp [endsD]; omega), show n + 0 = n by omega]
  | succ d ih =>
    intro i x n hi hx hn hn1
    have hb := byt_rd ht (i : Int)
    have hc := cross_range (rd t (i : Int))
    refine ev_step (fun k => impl_DigitsOf.l0.eq_2 _ _ _ _ _ _) (ev_pos (by omega) (ev_pos (by omega) (ev_pos (by omega) ?_)))
    refine impl_l1 hb.1 hb.2 x n (by omega) hn (by omega) _ _ _ _ ?_
    rw [w64s (by omega), drop_rd t i (by omega)]
    have := ih (i + 1) (x ++ four4 (rd t (i : Int))) (n + cross (rd t (i : Int))) (by omega) (by simp [four4]; omega) (by omega) (by omega)
    rw [List.append_assoc x] at this
    rw [show n + rests (rd t (i : Int) :: t.drop (i + 1)) = n + cross (rd t (i : Int)) + rests (t.drop (i + 1)) by simp only [rests]; omega]
    exact this
def msgTag : ByteArray := ⟨#[109, 101, 115, 115, 97, 103, 101]⟩
def digitsOfV (l : List Int) : List Int := digitsV ((tg msgTag l).take 4)
theorem impl_DigitsOf_ev {l : List Int} (hl : Byt l) (hn : l.length ≤ 4294967296) : Ev (fun k => impl_DigitsOf.f k l) (digitsOfV l) := by
  have h4 : msgTag.size = 7 := rfl
  have hlen := tg_length msgTag l
  have hby := tg_byt msgTag l
  unfold impl_DigitsOf.f digitsOfV
  refine ev_bind (ev_now (show impl_tagged.f msgTag [l] = some (tg msgTag l) from impl_tag1 hl (by omega))) ?_
  generalize tg msgTag l = d at hlen hby
  refine ev_pos (by omega) ?_
  simp only [Option.bind_some]
  have ht : (d.take 4).length = 4 := by rw [List.length_take]; omega
  have h := impl_l0 (d.take 4) (byt_take hby 4) (by omega) 4 0 [] 0 (by omega) (by simp) (by omega) (by omega)
  rw [List.drop_zero, List.nil_append, show (0 : Int) + rests (d.take 4) = rests (d.take 4) by omega] at h
  exact h
theorem spec_l1 {d : List Int} {i : Nat} (hi : i < d.length) (hb : Byt d) (x : List Int) (n : Int) (hx : x.length ≤ 1000) (hn : 0 ≤ n) (hn1 : n ≤ 100000) (r) (h : Ev (fun k => spec_DigitsOf.l0 k d (x ++ four4 (rd d (i : Int))) (n + cross (rd d (i : Int))) (wrap64 ((i : Int) + 1))) r) : Ev (fun k => spec_DigitsOf.l1 k d x n (i : Int) 3) r := by
  obtain ⟨h0, h1⟩ := byt_rd hb (i : Int)
  generalize hc : rd d (i : Int) = c at *
  refine ev_step (fun k => spec_DigitsOf.l1.eq_2 _ _ _ _ _ _) (ev_pos (by decide) (ev_pos (by omega) (ev_pos (by omega) (ev_pos (by decide +kernel) (ev_pos (by omega) ?_)))))
  rw [hc, show IntKind.u64.wrap (wrap64 (2 * 3)) = 6 by decide +kernel, b6 h0 h1, w64 (n := n + 3) (by omega) (by omega), w64 (n := n + 3 - c / 64 % 4) (by omega) (by omega), show wrap64 (3 - 1) = 2 by decide +kernel]
  refine ev_step (fun k => spec_DigitsOf.l1.eq_2 _ _ _ _ _ _) (ev_pos (by decide) (ev_pos (by omega) (ev_pos (by omega) (ev_pos (by decide +kernel) (ev_pos (by simp; omega) ?_)))))
  rw [hc, show IntKind.u64.wrap (wrap64 (2 * 2)) = 4 by decide +kernel, b4 h0 h1, w64 (n := n + 3 - c / 64 % 4 + 3) (by omega) (by omega), w64 (n := n + 3 - c / 64 % 4 + 3 - c / 16 % 4) (by omega) (by omega), show wrap64 (2 - 1) = 1 by decide +kernel]
  refine ev_step (fun k => spec_DigitsOf.l1.eq_2 _ _ _ _ _ _) (ev_pos (by decide) (ev_pos (by omega) (ev_pos (by omega) (ev_pos (by decide +kernel) (ev_pos (by simp; omega) ?_)))))
  rw [hc, show IntKind.u64.wrap (wrap64 (2 * 1)) = 2 by decide +kernel, b2 h0 h1, w64 (n := n + 3 - c / 64 % 4 + 3 - c / 16 % 4 + 3) (by omega) (by omega), w64 (n := n + 3 - c / 64 % 4 + 3 - c / 16 % 4 + 3 - c / 4 % 4) (by omega) (by omega), show wrap64 (1 - 1) = 0 by decide +kernel]
  refine ev_step (fun k => spec_DigitsOf.l1.eq_2 _ _ _ _ _ _) (ev_pos (by decide) (ev_pos (by omega) (ev_pos (by omega) (ev_pos (by decide +kernel) (ev_pos (by simp; omega) ?_)))))
  rw [hc, show IntKind.u64.wrap (wrap64 (2 * 0)) = 0 by decide +kernel, b0 h0 h1, w64 (n := n + 3 - c / 64 % 4 + 3 - c / 16 % 4 + 3 - c / 4 % 4 + 3) (by omega) (by omega), w64 (n := n + 3 - c / 64 % 4 + 3 - c / 16 % 4 + 3 - c / 4 % 4 + 3 - c % 4) (by omega) (by omega), show wrap64 (0 - 1) = -1 by decide +kernel]
  refine ev_step (fun k => spec_DigitsOf.l1.eq_2 _ _ _ _ _ _) (ev_neg (by decide) ?_)
  rw [four_app, show n + 3 - c / 64 % 4 + 3 - c / 16 % 4 + 3 - c / 4 % 4 + 3 - c % 4 = n + cross c by unfold cross; omega]
  exact h
theorem spec_l0 (t : List Int) (ht : Byt t) (hl : t.length = 32) : ∀ (d i : Nat) (x : List Int) (n : Int), i + d = 4 → x.length ≤ 4 * i → 0 ≤ n → n ≤ 12 * i → Ev (fun k => spec_DigitsOf.l0 k t x n (i : Int)) (x ++ digs ((t.take 4).drop i) ++ endsD (n + rests ((t.take 4).drop i))) := by
  intro d
  have htl : (t.take 4).length = 4 := by rw [List.length_take]; omega
  induction d with
  | zero =>
    intro i x n hi hx hn hn1
    refine ev_step (fun k => spec_DigitsOf.l0.eq_2 _ _ _ _ _) (ev_neg (by omega) ?_)
    rw [List.drop_of_length_le (by omega), ends_eq hn (by omega)]
    simp only [Option.bind_some, digs, rests, List.append_nil]
    refine ev_now ?_
    rw [if_pos (by simp [endsD]; omega), show n + 0 = n by omega]
  | succ d ih =>
    intro i x n hi hx hn hn1
    have hb := byt_rd ht (i : Int)
    have hc := cross_range (rd t (i : Int))
    have hr : rd (t.take 4) (i : Int) = rd t (i : Int) := by
      rw [rd_nat _ i (by omega), rd_nat _ i (by omega), List.getElem_take]
    refine ev_step (fun k => spec_DigitsOf.l0.eq_2 _ _ _ _ _) (ev_pos (by omega) ?_)
    refine spec_l1 (by omega) ht x n (by omega) hn (by omega) _ ?_
    rw [w64s (by omega), drop_rd (t.take 4) i (by omega), hr]
    have := ih (i + 1) (x ++ four4 (rd t (i : Int))) (n + cross (rd t (i : Int))) (by omega) (by simp [four4]; omega) (by omega) (by omega)
    rw [List.append_assoc x] at this
    rw [show n + rests (rd t (i : Int) :: (t.take 4).drop (i + 1)) = n + cross (rd t (i : Int)) + rests ((t.take 4).drop (i + 1)) by simp only [rests]; omega]
    exact this
theorem spec_DigitsOf_ev {l : List Int} (hl : Byt l) (hn : l.length ≤ 4294967296) : Ev (fun k => spec_DigitsOf.f k l) (digitsOfV l) := by
  have h4 : msgTag.size = 7 := rfl
  have hlen := tg_length msgTag l
  have hby := tg_byt msgTag l
  unfold spec_DigitsOf.f digitsOfV
  refine ev_bind (ev_now (show spec_TaggedDigest.f msgTag l = some (tg msgTag l) from spec_tag hl (by omega))) ?_
  generalize tg msgTag l = d at hlen hby
  have h := spec_l0 d hby hlen 4 0 [] 0 (by omega) (by simp) (by omega) (by omega)
  rw [List.drop_zero, List.nil_append, show (0 : Int) + rests (d.take 4) = rests (d.take 4) by omega] at h
  exact h
theorem digitsOfV_length (l : List Int) : (digitsOfV l).length = 19 := by
  unfold digitsOfV digitsV
  rw [List.length_append, digs_length, List.length_take, tg_length]
  rfl
end Go.Proofs.Ytbeigbkkecboiaa.S

/- What the reference's draws come to, as far as the laws need it: each ends, in bounds. For every code that fits. -/
set_option linter.unusedVariables false
namespace Go.Proofs.Ytbeigbkkecboiaa.S
open Go.RowKit Go.Proofs.YtbeigbkkecboiaaW.PrintWords Go.Proofs.YtbeigbkkecboiaaW.PrintLast Go.Proofs.YtbeigbkkecboiaaW.PrintMore Go.Proofs.Ytbeigbkkecboiaa.Base

theorem tmod_range {a n : Int} (h0 : 0 ≤ a) (h1 : 1 ≤ n) : 0 ≤ Int.tmod a n ∧ Int.tmod a n < n := by
  rw [Int.tmod_eq_emod_of_nonneg h0]
  exact ⟨Int.emod_nonneg _ (by omega), Int.emod_lt_of_pos _ (by omega)⟩
theorem next_ok {c : List Int} (hc : Byt c) {at_ : Int} (h0 : 0 ≤ at_) (h1 : at_ ≤ 1099511627776) (n : Int) : ∃ v, spec_l1Next.f c at_ n = some (v, at_ + 1) ∧ 0 ≤ v ∧ (v < n ∨ v = 0) := by
  unfold spec_l1Next.f
  rw [w64 (n := at_ + 1) (by omega) (by omega), w64 (n := at_ + 1 - 1) (by omega) (by omega), show at_ + 1 - 1 = at_ by omega]
  by_cases hn : n < 1
  · exact ⟨0, by rw [if_pos hn], by omega, .inr rfl⟩
  rw [if_neg hn]
  by_cases hl : (c.length : Int) = 0
  · rw [if_pos hl, if_neg (by omega), w64 (n := at_ * 7) (by omega) (by omega)]
    have := tmod_range (a := at_ * 7) (n := n) (by omega) (by omega)
    exact ⟨_, rfl, this.1, .inl this.2⟩
  rw [if_neg hl]
  have hp := tmod_range (a := at_) (n := (c.length : Int)) h0 (by omega)
  have hp2 := tmod_range (a := at_ + 1) (n := (c.length : Int)) (by omega) (by omega)
  have hq : 0 ≤ Int.tdiv at_ (c.length : Int) ∧ Int.tdiv at_ (c.length : Int) ≤ at_ := by
    rw [Int.tdiv_eq_ediv_of_nonneg h0]
    exact ⟨Int.ediv_nonneg h0 (by omega), Int.ediv_le_self _ h0⟩
  rw [if_pos hp.1, if_pos hp.2]
  have hb1 := byt_rd hc (Int.tmod at_ (c.length : Int))
  generalize rd c (Int.tmod at_ (c.length : Int)) = b1 at *
  generalize Int.tdiv at_ (c.length : Int) = q at *
  rw [w64 (n := b1) (by omega) (by omega), w64 (n := q) (by omega) (by omega), w64 (n := q * 37) (by omega) (by omega), w64 (n := b1 + q * 37) (by omega) (by omega)]
  by_cases hg : n > 200
  · rw [if_pos hg, w64 (n := at_ + 1) (by omega) (by omega), if_pos hp2.1, if_pos hp2.2, if_neg (by omega)]
    have hb2 := byt_rd hc (Int.tmod (at_ + 1) (c.length : Int))
    generalize rd c (Int.tmod (at_ + 1) (c.length : Int)) = b2 at *
    rw [w64 (n := b2) (by omega) (by omega), w64 (n := b2 * 13) (by omega) (by omega), w64 (n := (b1 + q * 37) * 251) (by omega) (by omega), w64 (n := (b1 + q * 37) * 251 + b2 * 13) (by omega) (by omega), w64 (n := (b1 + q * 37) * 251 + b2 * 13 + at_) (by omega) (by omega)]
    have := tmod_range (a := (b1 + q * 37) * 251 + b2 * 13 + at_) (n := n) (by omega) (by omega)
    exact ⟨_, rfl, this.1, .inl this.2⟩
  · rw [if_neg hg, if_neg (by omega)]
    have := tmod_range (a := b1 + q * 37) (n := n) (by omega) (by omega)
    exact ⟨_, rfl, this.1, .inl this.2⟩
theorem some_l0 {c : List Int} (hc : Byt c) : ∀ (n : Nat) (x : List Int) (at_ : Int), 0 ≤ at_ → at_ + n ≤ 1099511627776 → Byt x → x.length + n ≤ 100000000 → ∃ r, Ev (fun k => spec_l1Some.l0 k (n : Int) x c at_) (r, at_ + n) ∧ Byt r ∧ r.length = x.length + n := by
  intro n
  induction n with
  | zero =>
    intro x at_ h0 h1 hx hl
    exact ⟨x, ev_step (fun k => spec_l1Some.l0.eq_2 _ _ _ _ _) (ev_neg (by omega) (ev_now (by simp))), hx, by omega⟩
  | succ n ih =>
    intro x at_ h0 h1 hx hl
    obtain ⟨v, hv, hv0, _⟩ := next_ok hc h0 (by omega) 256
    obtain ⟨r, hr, hb, hrl⟩ := ih (x ++ [v % 256]) (at_ + 1) (by omega) (by omega) (byt_append hx (byt_one (by omega) (by omega))) (by simp; omega)
    refine ⟨r, ev_step (fun k => spec_l1Some.l0.eq_2 _ _ _ _ _) (ev_pos (by omega) (ev_bind (ev_now hv) (ev_pos (by omega) ?_))), hb, by rw [hrl]; simp; omega⟩
    rw [w64 (by omega) (by omega), show ((n + 1 : Nat) : Int) - 1 = (n : Int) by omega]
    rw [show at_ + ((n + 1 : Nat) : Int) = at_ + 1 + (n : Int) by omega]
    exact hr
theorem some_ok {c : List Int} (hc : Byt c) (n at_ : Int) (h0 : 0 ≤ at_) (h1 : at_ ≤ 1000000000) (hn : n ≤ 100000) : ∃ r a, Ev (fun k => spec_l1Some.f k c at_ n) (r, a) ∧ Byt r ∧ r.length = n.toNat ∧ at_ ≤ a ∧ a ≤ at_ + 100000 := by
  by_cases h : 0 ≤ n
  · obtain ⟨r, hr, hb, hl⟩ := some_l0 hc n.toNat [] at_ h0 (by omega) byt_nil (by simp; omega)
    refine ⟨r, at_ + n.toNat, ?_, hb, by rw [hl]; simp, by omega, by omega⟩
    unfold spec_l1Some.f
    rw [Int.toNat_of_nonneg h] at hr
    rw [Int.toNat_of_nonneg h]
    exact hr
  · refine ⟨[], at_, ?_, byt_nil, by simp; omega, by omega, by omega⟩
    unfold spec_l1Some.f
    exact ev_step (fun k => spec_l1Some.l0.eq_2 _ _ _ _ _) (ev_neg (by omega) (ev_now rfl))
theorem pick_ok {c : List Int} (hc : Byt c) {at_ : Int} (h0 : 0 ≤ at_) (h1 : at_ ≤ 1099511627776) (L : List Int) (hL : 0 < L.length) : ∃ v, spec_l1Pick.f c at_ L = some (v, at_ + 1) ∧ v ∈ L := by
  obtain ⟨v, hv, hv0, hv1⟩ := next_ok hc h0 h1 (L.length : Int)
  unfold spec_l1Pick.f
  rw [hv, Option.bind_some, if_pos hv0, if_pos (by show v < _; omega)]
  refine ⟨rd L v, rfl, ?_⟩
  obtain ⟨j, rfl⟩ := Int.eq_ofNat_of_zero_le hv0
  rw [rd_nat L j (by omega)]
  exact List.getElem_mem _
end Go.Proofs.Ytbeigbkkecboiaa.S

/- The draws of bytes: each ends, in bounds. For every code that fits. -/
set_option linter.unusedVariables false
namespace Go.Proofs.Ytbeigbkkecboiaa.S
open Go.RowKit Go.Proofs.YtbeigbkkecboiaaW.PrintWords Go.Proofs.YtbeigbkkecboiaaW.PrintLast Go.Proofs.YtbeigbkkecboiaaW.PrintMore Go.Proofs.Ytbeigbkkecboiaa.Base

theorem drawHex_ok {c : List Int} (hc : Byt c) : ∃ r, Ev (fun k => spec_DrawHexOf.f k c) r ∧ Byt r ∧ r.length ≤ 12 := by
  obtain ⟨v, hv, hv0, hv1⟩ := next_ok hc (at_ := 0) (by omega) (by omega) 12
  obtain ⟨r, a, hr, hb, hl, _, _⟩ := some_ok hc v (0 + 1) (by omega) (by omega) (by omega)
  refine ⟨r, ?_, hb, by omega⟩
  unfold spec_DrawHexOf.f
  exact ev_bind (ev_now (a := spec_l1Source.f c) (r := (c, 0)) rfl) (ev_bind (ev_now hv) (ev_bind hr (ev_now rfl)))
end Go.Proofs.Ytbeigbkkecboiaa.S

/- The law FnDigits answers true: no message's digits are all at least another one's, unless they are the same. No condition. -/
set_option linter.unusedVariables false
namespace Go.Proofs.Ytbeigbkkecboiaa.S
open Go.RowKit Go.Proofs.YtbeigbkkecboiaaW.PrintWords Go.Proofs.YtbeigbkkecboiaaW.PrintLast Go.Proofs.YtbeigbkkecboiaaW.PrintMore Go.Proofs.Ytbeigbkkecboiaa.Base Go.Proofs.Ytbeigbkkecboiaa.Sha

def restL : List Int → Int
  | [] => 0
  | x :: l => 3 - x + restL l
theorem restL_append (a b : List Int) : restL (a ++ b) = restL a + restL b := by
  induction a with
  | nil => simp [restL]
  | cons x a ih => simp only [List.cons_append, restL, ih]; omega
theorem rests_digs : ∀ l : List Int, rests l = restL (digs l)
  | [] => rfl
  | c :: l => by
    simp only [rests, digs, restL_append, rests_digs l, four4, restL, cross]
    omega
theorem restL_le : ∀ (a b : List Int), a.length = b.length → (∀ j, j < a.length → a.getD j 0 ≥ b.getD j 0) → restL a ≤ restL b ∧ (restL a = restL b → a = b)
  | [], [], _, _ => ⟨Int.le_refl _, fun _ => rfl⟩
  | [], _ :: _, h, _ => by simp at h
  | _ :: _, [], h, _ => by simp at h
  | x :: a, y :: b, h, hg => by
    have h0 := hg 0 (by simp)
    have ih := restL_le a b (by simpa using h) (fun j hj => by simpa using hg (j + 1) (by simp; omega))
    simp only [List.getD_cons_zero] at h0
    simp only [restL]
    refine ⟨by omega, fun e => ?_⟩
    have e1 : x = y := by omega
    rw [e1, ih.2 (by omega)]
theorem getD_app_l (a b : List Int) {j : Nat} (h : j < a.length) : (a ++ b).getD j 0 = a.getD j 0 := by
  rw [List.getD_eq_getElem?_getD, List.getElem?_append_left h, ← List.getD_eq_getElem?_getD]
theorem getD_app_r (a b : List Int) {j : Nat} (h : a.length ≤ j) : (a ++ b).getD j 0 = b.getD (j - a.length) 0 := by
  rw [List.getD_eq_getElem?_getD, List.getElem?_append_right h, ← List.getD_eq_getElem?_getD]
theorem digitsV_eq {d e : List Int} (hd : d.length = 4) (he : e.length = 4) (h : ∀ j, j < 19 → (digitsV d).getD j 0 ≥ (digitsV e).getD j 0) : digitsV d = digitsV e := by
  have ld := digs_length d
  have le := digs_length e
  have hlow : ∀ j, j < (digs d).length → (digs d).getD j 0 ≥ (digs e).getD j 0 := fun j hj => by
    have := h j (by omega)
    unfold digitsV at this
    rw [getD_app_l _ _ (by omega), getD_app_l _ _ (by omega)] at this
    exact this
  have hr := restL_le (digs d) (digs e) (by omega) hlow
  have hend : ∀ j, j < 3 → (endsD (rests d)).getD j 0 ≥ (endsD (rests e)).getD j 0 := fun j hj => by
    have := h (16 + j) (by omega)
    unfold digitsV at this
    rw [getD_app_r _ _ (by omega), getD_app_r _ _ (by omega), ld, le, hd, he, show 16 + j - 4 * 4 = j by omega] at this
    exact this
  have e0 := hend 0 (by omega)
  have e1 := hend 1 (by omega)
  have e2 := hend 2 (by omega)
  simp only [endsD, List.getD_cons_zero, List.getD_cons_succ] at e0 e1 e2
  have rd_ := rests_range d
  have re_ := rests_range e
  rw [hd] at rd_
  rw [he] at re_
  have hle : rests d ≤ rests e := by rw [rests_digs, rests_digs]; exact hr.1
  have heq : rests d = rests e := by omega
  have hdg : digs d = digs e := hr.2 (by rw [← rests_digs, ← rests_digs]; exact heq)
  unfold digitsV
  rw [hdg, heq]
theorem digs_range : ∀ l : List Int, ∀ x ∈ digs l, 0 ≤ x ∧ x ≤ 3
  | [], x, hx => by cases hx
  | c :: l, x, hx => by
    simp only [digs, four4, List.mem_append, List.mem_cons, List.not_mem_nil, or_false] at hx
    rcases hx with (rfl | rfl | rfl | rfl) | hx
    · omega
    · omega
    · omega
    · omega
    · exact digs_range l x hx
theorem digitsV_range {d : List Int} (hd : d.length = 4) : ∀ x ∈ digitsV d, 0 ≤ x ∧ x ≤ 3 := by
  intro x hx
  have hr := rests_range d
  rw [hd] at hr
  rcases List.mem_append.1 hx with h | h
  · exact digs_range d x h
  · simp only [endsD, List.mem_cons, List.not_mem_nil, or_false] at h
    rcases h with rfl | rfl | rfl <;> omega
theorem lwNums_l0 (l : List Int) (hl : l.length ≤ 1000000) : ∀ (d i : Nat), i + d = l.length → Ev (fun k => laws_lwNums.l0 k l l (i : Int)) true := by
  intro d
  induction d with
  | zero =>
    intro i hi
    exact ev_step (fun k => laws_lwNums.l0.eq_2 _ _ _ _) (ev_neg (by omega) (ev_now rfl))
  | succ d ih =>
    intro i hi
    refine ev_step (fun k => laws_lwNums.l0.eq_2 _ _ _ _) (ev_pos (by omega) (ev_pos (by omega) (ev_pos (by omega) (ev_pos rfl ?_))))
    rw [w64s (by omega)]
    exact ih (i + 1) (by omega)
theorem lwNums_ev (l : List Int) (hl : l.length ≤ 1000000) : Ev (fun k => laws_lwNums.f k l l) true := by
  unfold laws_lwNums.f
  exact ev_pos rfl (lwNums_l0 l hl l.length 0 (by omega))
theorem fnDigits_l0 (a b : List Int) (ha : a.length = 19) (hb : b.length = 19) (hr : ∀ x ∈ a, 0 ≤ x ∧ x ≤ 3) (he : (∀ j, j < 19 → a.getD j 0 ≥ b.getD j 0) → a = b) :
    ∀ (d i : Nat) (q : Bool), i + d = 19 → (q = true → ∀ j, j < i → a.getD j 0 ≥ b.getD j 0) → Ev (fun k => laws_FnDigits.l0 k a b q (i : Int)) true := by
  intro d
  induction d with
  | zero =>
    intro i q hi hq
    refine ev_step (fun k => laws_FnDigits.l0.eq_2 _ _ _ _ _) (ev_neg (by omega) ?_)
    by_cases h : q = true
    · refine ev_pos h ?_
      have e := he (fun j hj => hq h j (by omega))
      rw [← e]
      exact ev_bind (lwNums_ev a (by omega)) (ev_now rfl)
    · exact ev_neg h (ev_now rfl)
  | succ d ih =>
    intro i q hi hq
    have hx := hr a[i] (List.getElem_mem _)
    have hx2 : rd a (i : Int) = a[i] := rd_nat a i (by omega)
    refine ev_step (fun k => laws_FnDigits.l0.eq_2 _ _ _ _ _) (ev_pos (by omega) ?_)
    by_cases h : q = true
    · refine ev_pos h (ev_pos (by omega) (ev_pos (by omega) (ev_neg (by omega) (ev_neg (by omega) ?_))))
      rw [w64s (by omega)]
      refine ih (i + 1) _ (by omega) (fun hd j hj => ?_)
      rcases Nat.lt_or_ge j i with hji | hji
      · exact hq h j hji
      · obtain rfl : j = i := by omega
        have h2 := of_decide_eq_true hd
        unfold rd at h2
        rw [Int.toNat_natCast] at h2
        exact h2
    · refine ev_neg h (ev_pos (by omega) (ev_neg (by omega) (ev_neg (by omega) ?_)))
      rw [w64s (by omega)]
      exact ih (i + 1) false (by omega) (fun hf => by cases hf)
end Go.Proofs.Ytbeigbkkecboiaa.S
namespace Go.Proofs.Ytbeigbkkecboiaa.Pure
open Go.RowKit Go.Proofs.Ytbeigbkkecboiaa.S Go.Proofs.YtbeigbkkecboiaaW.PrintWords Go.Proofs.YtbeigbkkecboiaaW.PrintLast Go.Proofs.YtbeigbkkecboiaaW.PrintMore Go.Proofs.Ytbeigbkkecboiaa.Base Go.Proofs.Ytbeigbkkecboiaa.Sha

theorem FnDigits : laws_FnDigits.Pure := by
  intro l0 _ hsz hwf
  refine Ev.rounds ?_
  have hy := byt_of_wf hwf
  unfold laws_FnDigits.f
  by_cases hc : (l0.length : Int) > 1048576
  · exact ev_bind (ev_now (show laws_lwBig.f l0 = some (decide ((l0.length : Int) > 1048576)) from rfl)) (ev_pos (decide_eq_true hc) (ev_now rfl))
  refine ev_bind (ev_now (show laws_lwBig.f l0 = some (decide ((l0.length : Int) > 1048576)) from rfl)) (ev_neg (by simpa using hc) ?_)
  obtain ⟨m1, h1, b1, n1⟩ := drawHex_ok hy
  have hy2 : Byt ([7] ++ l0) := byt_append (byt_one (by omega) (by omega)) hy
  obtain ⟨m2, h2, b2, n2⟩ := drawHex_ok hy2
  have h1' : Ev (fun k => spec_DrawDigitsOf.f k l0) m1 := by
    unfold spec_DrawDigitsOf.f
    exact ev_bind h1 (ev_now rfl)
  have la := digitsOfV_length m1
  have lb := digitsOfV_length m2
  have t1 : ((tg msgTag m1).take 4).length = 4 := by rw [List.length_take, tg_length]; rfl
  have t2 : ((tg msgTag m2).take 4).length = 4 := by rw [List.length_take, tg_length]; rfl
  refine ev_bind h1' (ev_bind (impl_DigitsOf_ev b1 (by omega)) (ev_bind (ev_now rfl) (ev_pos (by simp; omega) (ev_bind h2 (ev_bind (impl_DigitsOf_ev b2 (by omega)) (ev_pos (by omega) ?_))))))
  refine ev_step (fun k => laws_FnDigits.j0.eq_2 _ _ _ _) (ev_neg (by rw [lb]; decide) ?_)
  exact fnDigits_l0 (digitsOfV m1) (digitsOfV m2) la lb (digitsV_range t1) (fun h => digitsV_eq t1 t2 h) 19 0 true (by omega) (fun _ j hj => by omega)
end Go.Proofs.Ytbeigbkkecboiaa.Pure
