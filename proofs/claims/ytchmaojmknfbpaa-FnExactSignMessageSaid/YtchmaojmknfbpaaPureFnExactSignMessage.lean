import Derived.Test.YtchmaojmknfbpaaBase
import Derived.Test.YtchmaojmknfbpaaSxLawsHelp
import Derived.Test.YtchmaojmknfbpaaShaI
import Derived.Test.YtchmaojmknfbpaaPStr
import Derived.Test.YtchmaojmknfbpaaSxImplTaggedY
import Derived.Test.YtchmaojmknfbpaaSxImplDigestY
import Derived.Test.YtchmaojmknfbpaaSxSpecTaggedDigest
import Derived.Test.YtchmaojmknfbpaaSxSpecDigest
import Derived.Test.YtchmaojmknfbpaaSxImplDigitsOf
import Derived.Test.YtchmaojmknfbpaaSxSpecDigitsOf
import Derived.Test.YtchmaojmknfbpaaSxImplSmall
import Derived.Test.YtchmaojmknfbpaaSxSpecL1
import Derived.Test.YtchmaojmknfbpaaSxImplKeys
import Derived.Test.YtchmaojmknfbpaaSxSpecL4
import Derived.Test.YtchmaojmknfbpaaSxSlicesCloneByteByte
import Derived.Test.YtchmaojmknfbpaaSxImplTree
import Derived.Test.YtchmaojmknfbpaaSxSpecTree
import Derived.Test.YtchmaojmknfbpaaSxImplPathOfY
import Derived.Test.YtchmaojmknfbpaaSxSpecL3PathY
import Derived.Test.YtchmaojmknfbpaaSxImplSignMessage
import Derived.Test.YtchmaojmknfbpaaSxImplSignY
import Derived.Test.YtchmaojmknfbpaaSxSpecSignMessage
import Derived.Test.YtchmaojmknfbpaaSxSpecL4SignY
import Derived.Test.YtchmaojmknfbpaaSxImplProveLeafY
import Derived.Test.YtchmaojmknfbpaaSxSpecL3ProveY
import Derived.Test.YtchmaojmknfbpaaSx0
import Derived.Test.YtchmaojmknfbpaaSxLawsHelpSS
import Derived.WalkSpells
import Derived.Laws.Tables
import Derived.Laws.CopyOwn
import Derived.Test.YtchmaojmknfbpaaSignG
import Derived.Test.YtchmaojmknfbpaaSxLawsHeldSignResultY
import Derived.Test.YtchmaojmknfbpaaSxLawsEqSignResultY
import Derived.Test.YtchmaojmknfbpaaSxLawsEqSignatureY
import Derived.Test.YtchmaojmknfbpaaSxLawsHeldSignatureY
/- What the laws' own helpers on byte slices come to: toByteS copies, eqByteS compares, markByteS and heldByteS count alike. For every slice that fits memory. -/
set_option linter.unusedVariables false
namespace Go.Proofs.Ytchmaojmknfbpaa.S
open Go.RowKit Go.Proofs.YtchmaojmknfbpaaW.PrintWords Go.Proofs.YtchmaojmknfbpaaW.PrintLast Go.Proofs.YtchmaojmknfbpaaW.PrintMore Go.Proofs.Ytchmaojmknfbpaa.Base

theorem toByteS_l0 (l : List Int) (hl : l.length ≤ 281474976710656) : ∀ (d : Nat) (x : List Int) (i : Nat), i + d = l.length → x.length = l.length → (∀ j, j < i → x[j]? = l[j]?) → Ev (fun k => laws_toByteS.l0 k l x (i : Int)) l := by
  intro d
  induction d with
  | zero =>
    intro x i hi hx hj
    refine ev_step (fun k => laws_toByteS.l0.eq_2 _ _ _ _) ?_
    refine ev_neg (by omega) ?_
    rw [fill_all hx (fun j h => hj j (by omega))]
    exact ev_now rfl
  | succ d ih =>
    intro x i hi hx hj
    refine ev_step (fun k => laws_toByteS.l0.eq_2 _ _ _ _) ?_
    refine ev_pos (by omega) ?_
    refine ev_pos (by omega) ?_
    refine ev_pos (by omega) ?_
    rw [w64s (by omega), Int.toNat_natCast]
    exact ih _ (i + 1) (by omega) (by rw [List.length_set]; exact hx) (fill_step (by omega) hx hj)
theorem toByteS_ev (l : List Int) (hl : l.length ≤ 281474976710656) : Ev (fun k => laws_toByteS.f k l) l := by
  unfold laws_toByteS.f
  refine ev_pos (by omega) ?_
  refine ev_pos (by omega) ?_
  exact toByteS_l0 l hl l.length _ 0 (by omega) (by simp) (fun j h => by omega)
theorem eqByteS_l0 (l : List Int) (hl : l.length ≤ 281474976710656) : ∀ (d i : Nat), i + d = l.length → Ev (fun k => laws_eqByteS.l0 k l l (i : Int)) true := by
  intro d
  induction d with
  | zero =>
    intro i hi
    refine ev_step (fun k => laws_eqByteS.l0.eq_2 _ _ _ _) ?_
    refine ev_neg (by omega) ?_
    exact ev_now rfl
  | succ d ih =>
    intro i hi
    refine ev_step (fun k => laws_eqByteS.l0.eq_2 _ _ _ _) ?_
    refine ev_pos (by omega) ?_
    refine ev_pos (by omega) ?_
    refine ev_pos (by omega) ?_
    refine ev_pos rfl ?_
    rw [w64s (by omega)]
    exact ih (i + 1) (by omega)
theorem eqByteS_ev (l : List Int) (hl : l.length ≤ 281474976710656) : Ev (fun k => laws_eqByteS.f k l l) true := by
  unfold laws_eqByteS.f
  refine ev_pos rfl ?_
  exact eqByteS_l0 l hl l.length 0 (by omega)
end Go.Proofs.Ytchmaojmknfbpaa.S

/- What the laws' markByteS and heldByteS come to: places are numbered from a start on, and found numbered so. For every slice and start that fit. -/
set_option linter.unusedVariables false
namespace Go.Proofs.Ytchmaojmknfbpaa.S
open Go.RowKit Go.Proofs.YtchmaojmknfbpaaW.PrintWords Go.Proofs.YtchmaojmknfbpaaW.PrintLast Go.Proofs.YtchmaojmknfbpaaW.PrintMore Go.Proofs.Ytchmaojmknfbpaa.Base

/-- n places numbered from a on. -/
def marked (a : Int) (n : Nat) : List Int := (List.range n).map fun (j : Nat) => (a + (j : Int)) % 256
theorem marked_length (a : Int) (n : Nat) : (marked a n).length = n := by simp [marked]
theorem marked_at (a : Int) (n j : Nat) (h : j < n) : (marked a n)[j]? = some ((a + (j : Int)) % 256) := by
  simp [marked, List.getElem?_map, List.getElem?_range h]
theorem markByteS_l0 (a : Int) (n : Nat) (h0 : 0 ≤ a) (h1 : a + n ≤ 4611686018427387904) : ∀ (d i : Nat) (x : List Int), i + d = n → x.length = n → (∀ j, j < i → x[j]? = (marked a n)[j]?) → Ev (fun k => laws_markByteS.l0 k x (a + (i : Int)) (i : Int)) (a + (n : Int), marked a n) := by
  intro d
  induction d with
  | zero =>
    intro i x hi hx hj
    refine ev_step (fun k => laws_markByteS.l0.eq_2 _ _ _ _) (ev_neg (by omega) ?_)
    have e : x = marked a n := fill_all (by rw [marked_length]; exact hx) (fun j h => hj j (by rw [marked_length] at h; omega))
    rw [e, show i = n by omega]
    exact ev_now rfl
  | succ d ih =>
    intro i x hi hx hj
    refine ev_step (fun k => laws_markByteS.l0.eq_2 _ _ _ _) (ev_pos (by omega) (ev_pos (by omega) ?_))
    rw [w64s (by omega), w64 (n := a + (i : Int) + 1) (by omega) (by omega), Int.toNat_natCast, show a + (i : Int) + 1 = a + ((i + 1 : Nat) : Int) by omega]
    refine ih (i + 1) _ (by omega) (by rw [List.length_set]; exact hx) ?_
    intro j hj'
    rw [List.getElem?_set]
    by_cases e : i = j
    · subst e
      rw [if_pos rfl, if_pos (by omega), marked_at a n i (by omega)]
    · rw [if_neg e]; exact hj j (by omega)
theorem markByteS_ev (l : List Int) (a : Int) (h0 : 0 ≤ a) (h1 : a + l.length ≤ 4611686018427387904) : Ev (fun k => laws_markByteS.f k l a) (a + (l.length : Int), marked a l.length) := by
  have h := markByteS_l0 a l.length h0 h1 l.length 0 l (by omega) rfl (fun j h => by omega)
  rw [show a + ((0 : Nat) : Int) = a by omega] at h
  exact h
theorem heldByteS_l0 (a : Int) (n : Nat) (h0 : 0 ≤ a) (h1 : a + n ≤ 4611686018427387904) : ∀ (d i : Nat), i + d = n → Ev (fun k => laws_heldByteS.l0 k (marked a n) (a + (i : Int)) (i : Int)) (a + (n : Int)) := by
  intro d
  induction d with
  | zero =>
    intro i hi
    refine ev_step (fun k => laws_heldByteS.l0.eq_2 _ _ _ _) (ev_neg (by rw [marked_length]; omega) ?_)
    rw [show i = n by omega]
    exact ev_now rfl
  | succ d ih =>
    intro i hi
    refine ev_step (fun k => laws_heldByteS.l0.eq_2 _ _ _ _) (ev_pos (by rw [marked_length]; omega) (ev_pos (by omega) (ev_pos ?_ ?_)))
    · unfold rd
      rw [List.getD_eq_getElem?_getD, Int.toNat_natCast, marked_at a n i (by omega)]
      rfl
    · rw [w64s (by omega), w64 (n := a + (i : Int) + 1) (by omega) (by omega), show a + (i : Int) + 1 = a + ((i + 1 : Nat) : Int) by omega]
      exact ih (i + 1) (by omega)
theorem heldByteS_ev (n : Nat) (a : Int) (h0 : 0 ≤ a) (h1 : a + n ≤ 4611686018427387904) : Ev (fun k => laws_heldByteS.f k (marked a n) a) (a + (n : Int)) := by
  have h := heldByteS_l0 a n h0 h1 n 0 (by omega)
  rw [show a + ((0 : Nat) : Int) = a by omega] at h
  exact h
end Go.Proofs.Ytchmaojmknfbpaa.S

/- The digest and the tagged digest, as plain functions: what the program's and the reference's come to. For all bytes that fit. -/
set_option linter.unusedVariables false
namespace Go.Proofs.Ytchmaojmknfbpaa.S
open Go.RowKit Go.Proofs.YtchmaojmknfbpaaW.PrintWords Go.Proofs.YtchmaojmknfbpaaW.PrintLast Go.Proofs.YtchmaojmknfbpaaW.PrintMore Go.Proofs.Ytchmaojmknfbpaa.Base Go.Proofs.Ytchmaojmknfbpaa.Sha

theorem impl_dig {ls : List (List Int)} (hl : Byt ls.flatten) (hn : ls.flatten.length < 70000000000000) : impl_digest.f ls = some (sha ls.flatten) := by
  unfold impl_digest.f
  refine if_pos ?_
  unfold impl_digest.ok
  rw [Bool.and_eq_true]
  exact ⟨List.all_eq_true.2 (fun x hx => decide_eq_true (hl x hx)), decide_eq_true hn⟩
/-- The tagged digest. -/
def tg (t : ByteArray) (l : List Int) : List Int := sha ([(t.size : Int) % 256] ++ bytesOf t ++ l)
theorem tg_length (t : ByteArray) (l : List Int) : (tg t l).length = 32 := sha_length _
theorem tg_byt (t : ByteArray) (l : List Int) : Byt (tg t l) := sha_byt _
theorem tg_byt0 {t : ByteArray} {l : List Int} (hl : Byt l) : Byt ([(t.size : Int) % 256] ++ bytesOf t ++ l) :=
  byt_append (byt_append (byt_one (by omega) (by omega)) (bytesOf_byt t)) hl
theorem impl_tag {t : ByteArray} {ls : List (List Int)} (hl : Byt ls.flatten) (hn : t.size + ls.flatten.length < 60000000000000) (hc : ls.length < 5000000000000) : impl_tagged.f t ls = some (tg t ls.flatten) := by
  unfold impl_tagged.f
  rw [if_pos (by omega)]
  have e : ([[(t.size : Int) % 256], bytesOf t] ++ ls).flatten = [(t.size : Int) % 256] ++ bytesOf t ++ ls.flatten := by simp
  rw [impl_dig (by rw [e]; exact tg_byt0 hl) (by rw [e, List.length_append, List.length_append, bytesOf_length, List.length_singleton]; omega), e]
  rfl
theorem impl_tag1 {t : ByteArray} {l : List Int} (hl : Byt l) (hn : t.size + l.length < 60000000000000) : impl_tagged.f t [l] = some (tg t l) := by
  have e : [l].flatten = l := by simp
  have h := impl_tag (t := t) (ls := [l]) (by rw [e]; exact hl) (by rw [e]; exact hn) (by simp)
  rw [e] at h
  exact h
theorem impl_tag2 {t : ByteArray} {l m : List Int} (hl : Byt l) (hm : Byt m) (hn : t.size + l.length + m.length < 60000000000000) : impl_tagged.f t [l, m] = some (tg t (l ++ m)) := by
  have e : [l, m].flatten = l ++ m := by simp
  have h := impl_tag (t := t) (ls := [l, m]) (by rw [e]; exact byt_append hl hm) (by rw [e, List.length_append]; omega) (by simp)
  rw [e] at h
  exact h
end Go.Proofs.Ytchmaojmknfbpaa.S

/- The digest and the tagged digest, as plain functions: what the program's and the reference's come to. For all bytes that fit. -/
set_option linter.unusedVariables false
namespace Go.Proofs.Ytchmaojmknfbpaa.S
open Go.RowKit Go.Proofs.YtchmaojmknfbpaaW.PrintWords Go.Proofs.YtchmaojmknfbpaaW.PrintLast Go.Proofs.YtchmaojmknfbpaaW.PrintMore Go.Proofs.Ytchmaojmknfbpaa.Base Go.Proofs.Ytchmaojmknfbpaa.Sha

theorem spec_dig {l : List Int} (hl : Byt l) (hn : l.length < 70000000000000) : spec_Digest.f l = some (sha l) := by
  unfold spec_Digest.f
  refine if_pos ?_
  unfold spec_Digest.ok
  rw [Bool.and_eq_true]
  exact ⟨List.all_eq_true.2 (fun x hx => decide_eq_true (hl x hx)), decide_eq_true hn⟩
theorem spec_tag {t : ByteArray} {l : List Int} (hl : Byt l) (hn : t.size + l.length < 60000000000000) : spec_TaggedDigest.f t l = some (tg t l) := by
  unfold spec_TaggedDigest.f
  refine spec_dig (tg_byt0 hl) ?_
  rw [List.length_append, List.length_append, bytesOf_length, List.length_singleton]
  omega
end Go.Proofs.Ytchmaojmknfbpaa.S

/- The digits of a message: what the program's and the reference's come to. For all bytes that fit. -/
set_option linter.unusedVariables false
namespace Go.Proofs.Ytchmaojmknfbpaa.S
open Go.RowKit Go.Proofs.YtchmaojmknfbpaaW.PrintWords Go.Proofs.YtchmaojmknfbpaaW.PrintLast Go.Proofs.YtchmaojmknfbpaaW.PrintMore Go.Proofs.Ytchmaojmknfbpaa.Base Go.Proofs.Ytchmaojmknfbpaa.Sha

def four4 (c : Int) : List Int := [c / 64 % 4, c / 16 % 4, c / 4 % 4, c % 4]
def cross (c : Int) : Int := 12 - (c / 64 % 4 + c / 16 % 4 + c / 4 % 4 + c % 4)
def digs : List Int → List Int
  | [] => []
  | c :: l => four4 c ++ digs l
def rests : List Int → Int
  | [] => 0
  | c :: l => cross c + rests l
def endsD (n : Int) : List Int := [n / 16, n / 4 % 4, n % 4]
def digitsV (d : List Int) : List Int := digs d ++ endsD (rests d)
theorem cross_range (c : Int) : 0 ≤ cross c ∧ cross c ≤ 12 := by unfold cross; omega
theorem bits_nat : ∀ n : Fin 256, ∀ j : Fin 4, wrap64 (Go.bits .and .u8 (shr .u8 (n.val : Int) (2 * (j.val : Int))) 3) = (n.val : Int) / 4 ^ j.val % 4 := by decide +kernel
theorem bits_at {c : Int} (h0 : 0 ≤ c) (h1 : c ≤ 255) (j : Fin 4) : wrap64 (Go.bits .and .u8 (shr .u8 c (2 * (j.val : Int))) 3) = c / 4 ^ j.val % 4 := by
  have h := bits_nat ⟨c.toNat, by omega⟩ j
  simp only at h
  rw [Int.toNat_of_nonneg h0] at h
  exact h
theorem b6 {c : Int} (h0 : 0 ≤ c) (h1 : c ≤ 255) : wrap64 (Go.bits .and .u8 (shr .u8 c 6) 3) = c / 64 % 4 := bits_at h0 h1 3
theorem b4 {c : Int} (h0 : 0 ≤ c) (h1 : c ≤ 255) : wrap64 (Go.bits .and .u8 (shr .u8 c 4) 3) = c / 16 % 4 := bits_at h0 h1 2
theorem b2 {c : Int} (h0 : 0 ≤ c) (h1 : c ≤ 255) : wrap64 (Go.bits .and .u8 (shr .u8 c 2) 3) = c / 4 % 4 := bits_at h0 h1 1
theorem b0 {c : Int} (h0 : 0 ≤ c) (h1 : c ≤ 255) : wrap64 (Go.bits .and .u8 (shr .u8 c 0) 3) = c % 4 := by
  have h := bits_at h0 h1 0
  simpa using h
theorem four_app (x : List Int) (c : Int) : x ++ [c / 64 % 4] ++ [c / 16 % 4] ++ [c / 4 % 4] ++ [c % 4] = x ++ four4 c := by simp [four4]
theorem impl_l1 {c : Int} (h0 : 0 ≤ c) (h1 : c ≤ 255) (x : List Int) (n : Int) (hx : x.length ≤ 1000) (hn : 0 ≤ n) (hn1 : n ≤ 100000) (t : List Int) (m i r) (h : Ev (fun k => impl_DigitsOf.l0 k (x ++ four4 c) (n + cross c) t m (wrap64 (i + 1))) r) : Ev (fun k => impl_DigitsOf.l1 k x n c 6 t m i) r := by
  refine ev_step (fun k => impl_DigitsOf.l1.eq_2 _ _ _ _ _ _ _ _) (ev_pos (by decide) (ev_pos (by decide) (ev_pos (by omega) ?_)))
  rw [b6 h0 h1, w64 (n := n + 3) (by omega) (by omega), w64 (n := n + 3 - c / 64 % 4) (by omega) (by omega), show wrap64 (6 - 2) = 4 by decide +kernel]
  refine ev_step (fun k => impl_DigitsOf.l1.eq_2 _ _ _ _ _ _ _ _) (ev_pos (by decide) (ev_pos (by decide) (ev_pos (by simp; omega) ?_)))
  rw [b4 h0 h1, w64 (n := n + 3 - c / 64 % 4 + 3) (by omega) (by omega), w64 (n := n + 3 - c / 64 % 4 + 3 - c / 16 % 4) (by omega) (by omega), show wrap64 (4 - 2) = 2 by decide +kernel]
  refine ev_step (fun k => impl_DigitsOf.l1.eq_2 _ _ _ _ _ _ _ _) (ev_pos (by decide) (ev_pos (by decide) (ev_pos (by simp; omega) ?_)))
  rw [b2 h0 h1, w64 (n := n + 3 - c / 64 % 4 + 3 - c / 16 % 4 + 3) (by omega) (by omega), w64 (n := n + 3 - c / 64 % 4 + 3 - c / 16 % 4 + 3 - c / 4 % 4) (by omega) (by omega), show wrap64 (2 - 2) = 0 by decide +kernel]
  refine ev_step (fun k => impl_DigitsOf.l1.eq_2 _ _ _ _ _ _ _ _) (ev_pos (by decide) (ev_pos (by decide) (ev_pos (by simp; omega) ?_)))
  rw [b0 h0 h1, w64 (n := n + 3 - c / 64 % 4 + 3 - c / 16 % 4 + 3 - c / 4 % 4 + 3) (by omega) (by omega), w64 (n := n + 3 - c / 64 % 4 + 3 - c / 16 % 4 + 3 - c / 4 % 4 + 3 - c % 4) (by omega) (by omega), show wrap64 (0 - 2) = -2 by decide +kernel]
  refine ev_step (fun k => impl_DigitsOf.l1.eq_2 _ _ _ _ _ _ _ _) (ev_neg (by decide) ?_)
  rw [four_app, show n + 3 - c / 64 % 4 + 3 - c / 16 % 4 + 3 - c / 4 % 4 + 3 - c % 4 = n + cross c by unfold cross; omega]
  exact h
theorem ends_eq {n : Int} (h0 : 0 ≤ n) (h1 : n ≤ 100000) : ([wrap64 (Int.tdiv n 16), Int.tmod (wrap64 (Int.tdiv n 4)) 4, Int.tmod n 4] : List Int) = endsD n := by
  unfold endsD
  rw [Int.tdiv_eq_ediv_of_nonneg h0, Int.tdiv_eq_ediv_of_nonneg h0, Int.tmod_eq_emod_of_nonneg h0, w64 (n := n / 16) (by omega) (by omega), w64 (n := n / 4) (by omega) (by omega), Int.tmod_eq_emod_of_nonneg (by omega)]
theorem digs_length : ∀ l : List Int, (digs l).length = 4 * l.length
  | [] => rfl
  | c :: l => by
    simp only [digs, four4, List.length_append, List.length_cons, List.length_nil, digs_length l]
    omega
theorem rests_range : ∀ l : List Int, 0 ≤ rests l ∧ rests l ≤ 12 * l.length
  | [] => by simp [rests]
  | c :: l => by
    have := rests_range l
    have := cross_range c
    simp only [rests, List.length_cons]
    omega
theorem drop_rd (l : List Int) (i : Nat) (h : i < l.length) : l.drop i = rd l (i : Int) :: l.drop (i + 1) := by
  rw [rd_nat l i h, List.drop_eq_getElem_cons h]
theorem impl_l0 (t : List Int) (ht : Byt t) (hl : t.length ≤ 100) : ∀ (d i : Nat) (x : List Int) (n : Int), i + d = t.length → x.length ≤ 4 * i → 0 ≤ n → n ≤ 12 * i → Ev (fun k => impl_DigitsOf.l0 k x n t (t.length : Int) (i : Int)) (x ++ digs (t.drop i) ++ endsD (n + rests (t.drop i))) := by
  intro d
  induction d with
  | zero =>
    intro i x n hi hx hn hn1
    refine ev_step (fun k => impl_DigitsOf.l0.eq_2 _ _ _ _ _ _) (ev_neg (by omega) ?_)
    rw [List.drop_of_length_le (by omega), ends_eq hn (by omega)]
    simp only [Option.bind_some, digs, rests, List.append_nil]
    refine ev_now ?_
    rw [if_pos (by simp [endsD]; omega), show n + 0 = n by omega]
  | succ d ih =>
    intro i x n hi hx hn hn1
    have hb := byt_rd ht (i : Int)
    have hc := cross_range (rd t (i : Int))
    refine ev_step (fun k => impl_DigitsOf.l0.eq_2 _ _ _ _ _ _) (ev_pos (by omega) (ev_pos (by omega) (ev_pos (by omega) ?_)))
    refine impl_l1 hb.1 hb.2 x n (by omega) hn (by omega) _ _ _ _ ?_
    rw [w64s (by omega), drop_rd t i (by omega)]
    have := ih (i + 1) (x ++ four4 (rd t (i : Int))) (n + cross (rd t (i : Int))) (by omega) (by simp [four4]; omega) (by omega) (by omega)
    rw [List.append_assoc x] at this
    rw [show n + rests (rd t (i : Int) :: t.drop (i + 1)) = n + cross (rd t (i : Int)) + rests (t.drop (i + 1)) by simp only [rests]; omega]
    exact this
def msgTag : ByteArray := ⟨#[109, 101, 115, 115, 97, 103, 101]⟩
def digitsOfV (l : List Int) : List Int := digitsV ((tg msgTag l).take 4)
theorem impl_DigitsOf_ev {l : List Int} (hl : Byt l) (hn : l.length ≤ 4294967296) : Ev (fun k => impl_DigitsOf.f k l) (digitsOfV l) := by
  have h4 : msgTag.size = 7 := rfl
  have hlen := tg_length msgTag l
  have hby := tg_byt msgTag l
  unfold impl_DigitsOf.f digitsOfV
  refine ev_bind (ev_now (show impl_tagged.f msgTag [l] = some (tg msgTag l) from impl_tag1 hl (by omega))) ?_
  generalize tg msgTag l = d at hlen hby
  refine ev_pos (by omega) ?_
  simp only [Option.bind_some]
  have ht : (d.take 4).length = 4 := by rw [List.length_take]; omega
  have h := impl_l0 (d.take 4) (byt_take hby 4) (by omega) 4 0 [] 0 (by omega) (by simp) (by omega) (by omega)
  rw [List.drop_zero, List.nil_append, show (0 : Int) + rests (d.take 4) = rests (d.take 4) by omega] at h
  exact h
theorem spec_l1 {d : List Int} {i : Nat} (hi : i < d.length) (hb : Byt d) (x : List Int) (n : Int) (hx : x.length ≤ 1000) (hn : 0 ≤ n) (hn1 : n ≤ 100000) (r) (h : Ev (fun k => spec_DigitsOf.l0 k d (x ++ four4 (rd d (i : Int))) (n + cross (rd d (i : Int))) (wrap64 ((i : Int) + 1))) r) : Ev (fun k => spec_DigitsOf.l1 k d x n (i : Int) 3) r := by
  obtain ⟨h0, h1⟩ := byt_rd hb (i : Int)
  generalize hc : rd d (i : Int) = c at *
  refine ev_step (fun k => spec_DigitsOf.l1.eq_2 _ _ _ _ _ _) (ev_pos (by decide) (ev_pos (by omega) (ev_pos (by omega) (ev_pos (by decide +kernel) (ev_pos (by omega) ?_)))))
  rw [hc, show IntKind.u64.wrap (wrap64 (2 * 3)) = 6 by decide +kernel, b6 h0 h1, w64 (n := n + 3) (by omega) (by omega), w64 (n := n + 3 - c / 64 % 4) (by omega) (by omega), show wrap64 (3 - 1) = 2 by decide +kernel]
  refine ev_step (fun k => spec_DigitsOf.l1.eq_2 _ _ _ _ _ _) (ev_pos (by decide) (ev_pos (by omega) (ev_pos (by omega) (ev_pos (by decide +kernel) (ev_pos (by simp; omega) ?_)))))
  rw [hc, show IntKind.u64.wrap (wrap64 (2 * 2)) = 4 by decide +kernel, b4 h0 h1, w64 (n := n + 3 - c / 64 % 4 + 3) (by omega) (by omega), w64 (n := n + 3 - c / 64 % 4 + 3 - c / 16 % 4) (by omega) (by omega), show wrap64 (2 - 1) = 1 by decide +kernel]
  refine ev_step (fun k => spec_DigitsOf.l1.eq_2 _ _ _ _ _ _) (ev_pos (by decide) (ev_pos (by omega) (ev_pos (by omega) (ev_pos (by decide +kernel) (ev_pos (by simp; omega) ?_)))))
  rw [hc, show IntKind.u64.wrap (wrap64 (2 * 1)) = 2 by decide +kernel, b2 h0 h1, w64 (n := n + 3 - c / 64 % 4 + 3 - c / 16 % 4 + 3) (by omega) (by omega), w64 (n := n + 3 - c / 64 % 4 + 3 - c / 16 % 4 + 3 - c / 4 % 4) (by omega) (by omega), show wrap64 (1 - 1) = 0 by decide +kernel]
  refine ev_step (fun k => spec_DigitsOf.l1.eq_2 _ _ _ _ _ _) (ev_pos (by decide) (ev_pos (by omega) (ev_pos (by omega) (ev_pos (by decide +kernel) (ev_pos (by simp; omega) ?_)))))
  rw [hc, show IntKind.u64.wrap (wrap64 (2 * 0)) = 0 by decide +kernel, b0 h0 h1, w64 (n := n + 3 - c / 64 % 4 + 3 - c / 16 % 4 + 3 - c / 4 % 4 + 3) (by omega) (by omega), w64 (n := n + 3 - c / 64 % 4 + 3 - c / 16 % 4 + 3 - c / 4 % 4 + 3 - c % 4) (by omega) (by omega), show wrap64 (0 - 1) = -1 by decide +kernel]
  refine ev_step (fun k => spec_DigitsOf.l1.eq_2 _ _ _ _ _ _) (ev_neg (by decide) ?_)
  rw [four_app, show n + 3 - c / 64 % 4 + 3 - c / 16 % 4 + 3 - c / 4 % 4 + 3 - c % 4 = n + cross c by unfold cross; omega]
  exact h
theorem spec_l0 (t : List Int) (ht : Byt t) (hl : t.length = 32) : ∀ (d i : Nat) (x : List Int) (n : Int), i + d = 4 → x.length ≤ 4 * i → 0 ≤ n → n ≤ 12 * i → Ev (fun k => spec_DigitsOf.l0 k t x n (i : Int)) (x ++ digs ((t.take 4).drop i) ++ endsD (n + rests ((t.take 4).drop i))) := by
  intro d
  have htl : (t.take 4).length = 4 := by rw [List.length_take]; omega
  induction d with
  | zero =>
    intro i x n hi hx hn hn1
    refine ev_step (fun k => spec_DigitsOf.l0.eq_2 _ _ _ _ _) (ev_neg (by omega) ?_)
    rw [List.drop_of_length_le (by omega), ends_eq hn (by omega)]
    simp only [Option.bind_some, digs, rests, List.append_nil]
    refine ev_now ?_
    rw [if_pos (by simp [endsD]; omega), show n + 0 = n by omega]
  | succ d ih =>
    intro i x n hi hx hn hn1
    have hb := byt_rd ht (i : Int)
    have hc := cross_range (rd t (i : Int))
    have hr : rd (t.take 4) (i : Int) = rd t (i : Int) := by
      rw [rd_nat _ i (by omega), rd_nat _ i (by omega), List.getElem_take]
    refine ev_step (fun k => spec_DigitsOf.l0.eq_2 _ _ _ _ _) (ev_pos (by omega) ?_)
    refine spec_l1 (by omega) ht x n (by omega) hn (by omega) _ ?_
    rw [w64s (by omega), drop_rd (t.take 4) i (by omega), hr]
    have := ih (i + 1) (x ++ four4 (rd t (i : Int))) (n + cross (rd t (i : Int))) (by omega) (by simp [four4]; omega) (by omega) (by omega)
    rw [List.append_assoc x] at this
    rw [show n + rests (rd t (i : Int) :: (t.take 4).drop (i + 1)) = n + cross (rd t (i : Int)) + rests ((t.take 4).drop (i + 1)) by simp only [rests]; omega]
    exact this
theorem spec_DigitsOf_ev {l : List Int} (hl : Byt l) (hn : l.length ≤ 4294967296) : Ev (fun k => spec_DigitsOf.f k l) (digitsOfV l) := by
  have h4 : msgTag.size = 7 := rfl
  have hlen := tg_length msgTag l
  have hby := tg_byt msgTag l
  unfold spec_DigitsOf.f digitsOfV
  refine ev_bind (ev_now (show spec_TaggedDigest.f msgTag l = some (tg msgTag l) from spec_tag hl (by omega))) ?_
  generalize tg msgTag l = d at hlen hby
  have h := spec_l0 d hby hlen 4 0 [] 0 (by omega) (by simp) (by omega) (by omega)
  rw [List.drop_zero, List.nil_append, show (0 : Int) + rests (d.take 4) = rests (d.take 4) by omega] at h
  exact h
theorem digitsOfV_length (l : List Int) : (digitsOfV l).length = 19 := by
  unfold digitsOfV digitsV
  rw [List.length_append, digs_length, List.length_take, tg_length]
  rfl
end Go.Proofs.Ytchmaojmknfbpaa.S

/- Is a number in its bounds: the program's and the reference's answer. -/
set_option linter.unusedVariables false
namespace Go.Proofs.Ytchmaojmknfbpaa.S
open Go.RowKit Go.Proofs.YtchmaojmknfbpaaW.PrintWords Go.Proofs.YtchmaojmknfbpaaW.PrintLast Go.Proofs.YtchmaojmknfbpaaW.PrintMore Go.Proofs.Ytchmaojmknfbpaa.Base

theorem in_eq (a b c : Int) : impl_in.f a b c = some (decide (b ≤ a ∧ a ≤ c)) := by
  unfold impl_in.f
  by_cases h : b ≤ a <;> simp [h]
end Go.Proofs.Ytchmaojmknfbpaa.S

/- Is a number in its bounds: the program's and the reference's answer. -/
set_option linter.unusedVariables false
namespace Go.Proofs.Ytchmaojmknfbpaa.S
open Go.RowKit Go.Proofs.YtchmaojmknfbpaaW.PrintWords Go.Proofs.YtchmaojmknfbpaaW.PrintLast Go.Proofs.YtchmaojmknfbpaaW.PrintMore Go.Proofs.Ytchmaojmknfbpaa.Base

theorem l1In_eq (a b c : Int) : spec_l1In.f a b c = some (decide (b ≤ a ∧ a ≤ c)) := by
  unfold spec_l1In.f
  by_cases h : b ≤ a <;> simp [h]
end Go.Proofs.Ytchmaojmknfbpaa.S

/- The secret of a chain: what the program's and the reference's come to. For all bytes that fit. -/
set_option linter.unusedVariables false
namespace Go.Proofs.Ytchmaojmknfbpaa.S
open Go.RowKit Go.Proofs.YtchmaojmknfbpaaW.PrintWords Go.Proofs.YtchmaojmknfbpaaW.PrintLast Go.Proofs.YtchmaojmknfbpaaW.PrintMore Go.Proofs.Ytchmaojmknfbpaa.Base Go.Proofs.Ytchmaojmknfbpaa.Sha

def secV (l : List Int) (a c : Int) : List Int := tg (⟨#[107, 101, 121]⟩ : ByteArray) (l ++ [a % 256, c % 256])
theorem two_byt (a c : Int) : Byt [a % 256, c % 256] := fun x hx => by
  simp only [List.mem_cons, List.not_mem_nil, or_false] at hx
  rcases hx with rfl | rfl <;> omega
theorem secV_length (l : List Int) (a c : Int) : (secV l a c).length = 32 := tg_length _ _
theorem secV_byt (l : List Int) (a c : Int) : Byt (secV l a c) := tg_byt _ _
theorem impl_secret_eq {l : List Int} (hl : Byt l) (hn : l.length ≤ 4294967296) (a c : Int) : impl_secret.f l a c = some (secV l a c) := by
  have h4 : (⟨#[107, 101, 121]⟩ : ByteArray).size = 3 := rfl
  unfold impl_secret.f
  rw [impl_tag2 hl (two_byt a c) (by simp; omega)]
  rfl
theorem spec_secret_eq {l : List Int} (hl : Byt l) (hn : l.length ≤ 4294967296) (a c : Int) : spec_l4Secret.f l a c = some (secV l a c) := by
  have h4 : (⟨#[107, 101, 121]⟩ : ByteArray).size = 3 := rfl
  unfold spec_l4Secret.f
  simp only [Option.bind_some, List.length_nil, List.nil_append, List.length_cons]
  rw [if_pos (show 0 + l.length < 140737488355328 by omega), if_pos (show l.length + (0 + 1 + 1) < 140737488355328 by omega), spec_tag (byt_append hl (two_byt a c)) (by simp; omega)]
  rfl
def askV (n : Nat) (a : Int) : Int := if n > 200 then 2 else if 0 ≤ a ∧ a ≤ 3 then 0 else 3
theorem spec_asked_eq (l : List Int) (a : Int) : spec_l4Asked.f l a = some (askV l.length a) := by
  unfold spec_l4Asked.f askV
  rw [l1In_eq]
  by_cases h : l.length > 200
  · rw [if_pos h, if_pos (by omega)]
  · rw [if_neg h, if_neg (by omega)]
    by_cases g : 0 ≤ a ∧ a ≤ 3 <;> simp [g]
end Go.Proofs.Ytchmaojmknfbpaa.S

/- Steps of a chain: what the program's climb and the reference's come to. For all bytes that fit. -/
set_option linter.unusedVariables false
namespace Go.Proofs.Ytchmaojmknfbpaa.S
open Go.RowKit Go.Proofs.YtchmaojmknfbpaaW.PrintWords Go.Proofs.YtchmaojmknfbpaaW.PrintLast Go.Proofs.YtchmaojmknfbpaaW.PrintMore Go.Proofs.Ytchmaojmknfbpaa.Base Go.Proofs.Ytchmaojmknfbpaa.Sha

def stepsV : Nat → List Int → List Int
  | 0, l => l
  | n + 1, l => stepsV n (tg (⟨#[115, 116, 101, 112]⟩ : ByteArray) l)
theorem stepsV_byt : ∀ (n : Nat) {l : List Int}, Byt l → Byt (stepsV n l)
  | 0, _, h => h
  | n + 1, _, _ => stepsV_byt n (tg_byt _ _)
theorem stepsV_length : ∀ (n : Nat) (l : List Int), n = 0 ∧ (stepsV n l).length = l.length ∨ n ≠ 0 ∧ (stepsV n l).length = 32
  | 0, _ => .inl ⟨rfl, rfl⟩
  | n + 1, l => .inr ⟨by omega, by
    rcases stepsV_length n (tg (⟨#[115, 116, 101, 112]⟩ : ByteArray) l) with h | h
    · show (stepsV n _).length = 32
      rw [h.2, tg_length]
    · exact h.2⟩
theorem climb_l0 (n : Int) (h0 : 0 ≤ n) (h1 : n ≤ 4294967296) : ∀ (d : Nat) (i : Int) (x : List Int), i + d = n → 0 ≤ i → Byt x → x.length ≤ 4294967296 → Ev (fun k => impl_climb.l0 k x n i) (stepsV d x) := by
  intro d
  have h4 : (⟨#[115, 116, 101, 112]⟩ : ByteArray).size = 4 := rfl
  induction d with
  | zero =>
    intro i x hi _ _ _
    exact ev_step (fun k => impl_climb.l0.eq_2 _ _ _ _) (ev_neg (by omega) (ev_now rfl))
  | succ d ih =>
    intro i x hi hi0 hx hl
    refine ev_step (fun k => impl_climb.l0.eq_2 _ _ _ _) (ev_pos (by omega) (ev_bind (ev_now (impl_tag1 hx (by omega))) ?_))
    rw [w64 (by omega) (by omega)]
    exact ih (i + 1) _ (by omega) (by omega) (tg_byt _ _) (by rw [tg_length]; omega)
theorem climb_ev {l : List Int} (hl : Byt l) (hn : l.length ≤ 4294967296) (n : Nat) (h1 : n ≤ 4294967296) : Ev (fun k => impl_climb.f k l (n : Int)) (stepsV n l) := by
  unfold impl_climb.f
  refine ev_bind (ev_now (a := slices_Clone_byte_byte.f l) (r := l) (by unfold slices_Clone_byte_byte.f; rw [if_pos (by omega)])) ?_
  exact climb_l0 n (by omega) (by omega) n 0 l (by omega) (by omega) hl hn
theorem l4Step_ev : ∀ (n : Nat) {l : List Int}, Byt l → l.length ≤ 4294967296 → n ≤ 4294967296 → Ev (fun k => spec_l4Step.f k l (n : Int)) (stepsV n l) := by
  intro n
  have h4 : (⟨#[115, 116, 101, 112]⟩ : ByteArray).size = 4 := rfl
  induction n with
  | zero =>
    intro l hl hn _
    unfold spec_l4Step.f
    refine ev_step (fun k => spec_l4Step.l0.eq_2 _ _ _) (ev_neg (by omega) (ev_now ?_))
    simp only [Option.bind_some, List.length_nil, List.nil_append]
    rw [if_pos (by omega)]
    rfl
  | succ n ih =>
    intro l hl hn h1
    unfold spec_l4Step.f
    refine ev_step (fun k => spec_l4Step.l0.eq_2 _ _ _) (ev_pos (by omega) (ev_bind (ev_now (spec_tag hl (by omega))) ?_))
    rw [w64 (by omega) (by omega), show ((n + 1 : Nat) : Int) - 1 = (n : Int) by omega]
    exact ih (tg_byt _ _) (by rw [tg_length]; omega) (by omega)
end Go.Proofs.Ytchmaojmknfbpaa.S

/- The public leaf of a key: what the program's and the reference's come to. For all bytes that fit. -/
set_option linter.unusedVariables false
namespace Go.Proofs.Ytchmaojmknfbpaa.S
open Go.RowKit Go.Proofs.YtchmaojmknfbpaaW.PrintWords Go.Proofs.YtchmaojmknfbpaaW.PrintLast Go.Proofs.YtchmaojmknfbpaaW.PrintMore Go.Proofs.Ytchmaojmknfbpaa.Base Go.Proofs.Ytchmaojmknfbpaa.Sha

def endV (l : List Int) (a c : Int) : List Int := stepsV 3 (secV l a c)
theorem endV_byt (l : List Int) (a c : Int) : Byt (endV l a c) := stepsV_byt 3 (secV_byt l a c)
theorem endV_length (l : List Int) (a c : Int) : (endV l a c).length = 32 := by
  rcases stepsV_length 3 (secV l a c) with h | h
  · omega
  · exact h.2
def pubV (l : List Int) (a : Int) : Nat → List Int
  | 0 => []
  | n + 1 => pubV l a n ++ endV l a (n : Int)
theorem pubV_length (l : List Int) (a : Int) : ∀ n, (pubV l a n).length = 32 * n
  | 0 => rfl
  | n + 1 => by
    show (pubV l a n ++ endV l a (n : Int)).length = _
    rw [List.length_append, pubV_length l a n, endV_length]
    omega
theorem pubV_byt (l : List Int) (a : Int) : ∀ n, Byt (pubV l a n)
  | 0 => byt_nil
  | n + 1 => byt_append (pubV_byt l a n) (endV_byt l a _)
theorem impl_public_l0 {l : List Int} (hl : Byt l) (hn : l.length ≤ 4294967296) (a : Int) : ∀ (d i : Nat), i + d = 19 → Ev (fun k => impl_publicLeaf.l0 k l a (pubV l a i) (i : Int)) (pubV l a 19) := by
  intro d
  induction d with
  | zero =>
    intro i hi
    obtain rfl : i = 19 := by omega
    exact ev_step (fun k => impl_publicLeaf.l0.eq_2 _ _ _ _ _) (ev_neg (by omega) (ev_now rfl))
  | succ d ih =>
    intro i hi
    refine ev_step (fun k => impl_publicLeaf.l0.eq_2 _ _ _ _ _) (ev_pos (by omega) (ev_bind (ev_now (impl_secret_eq hl hn a (i : Int))) (ev_bind (climb_ev (secV_byt l a (i : Int)) (by rw [secV_length]; omega) 3 (by omega)) ?_)))
    refine ev_pos (by rw [pubV_length, show (stepsV 3 (secV l a (i : Int))).length = 32 from endV_length l a _]; omega) ?_
    rw [w64s (by omega)]
    exact ih (i + 1) (by omega)
theorem spec_public_l0 {l : List Int} (hl : Byt l) (hn : l.length ≤ 4294967296) (a : Int) : ∀ (d i : Nat), i + d = 19 → Ev (fun k => spec_l4Public.l0 k l a (pubV l a i) (i : Int)) (pubV l a 19) := by
  intro d
  induction d with
  | zero =>
    intro i hi
    obtain rfl : i = 19 := by omega
    exact ev_step (fun k => spec_l4Public.l0.eq_2 _ _ _ _ _) (ev_neg (by omega) (ev_now rfl))
  | succ d ih =>
    intro i hi
    refine ev_step (fun k => spec_l4Public.l0.eq_2 _ _ _ _ _) (ev_pos (by omega) (ev_bind (ev_now (spec_secret_eq hl hn a (i : Int))) (ev_bind (l4Step_ev 3 (secV_byt l a (i : Int)) (by rw [secV_length]; omega) (by omega)) ?_)))
    refine ev_pos (by rw [pubV_length, show (stepsV 3 (secV l a (i : Int))).length = 32 from endV_length l a _]; omega) ?_
    rw [w64s (by omega)]
    exact ih (i + 1) (by omega)
def publicV (l : List Int) (a : Int) : List Int := pubV l a 19
theorem publicV_byt (l : List Int) (a : Int) : Byt (publicV l a) := pubV_byt l a 19
theorem publicV_length (l : List Int) (a : Int) : (publicV l a).length = 608 := pubV_length l a 19
theorem impl_public_ev {l : List Int} (hl : Byt l) (hn : l.length ≤ 4294967296) (a : Int) : Ev (fun k => impl_publicLeaf.f k l a) (publicV l a) := impl_public_l0 hl hn a 19 0 (by omega)
theorem spec_public_ev {l : List Int} (hl : Byt l) (hn : l.length ≤ 4294967296) (a : Int) : Ev (fun k => spec_l4Public.f k l a) (publicV l a) := spec_public_l0 hl hn a 19 0 (by omega)
end Go.Proofs.Ytchmaojmknfbpaa.S

/- How a tree is split, and on which side the other parts are: the program's splitAt and sides and the reference's l3Split and l3Sides agree for 1 to 16 leaves. -/
set_option linter.unusedVariables false
namespace Go.Proofs.Ytchmaojmknfbpaa.S
open Go.RowKit Go.Proofs.YtchmaojmknfbpaaW.PrintWords Go.Proofs.YtchmaojmknfbpaaW.PrintLast Go.Proofs.YtchmaojmknfbpaaW.PrintMore Go.Proofs.Ytchmaojmknfbpaa.Base

def splitV (n : Int) : Int := if n ≤ 2 then 1 else if n ≤ 4 then 2 else if n ≤ 8 then 4 else 8
theorem splitV_range {n : Int} (h : 2 ≤ n) (h1 : n ≤ 16) : 1 ≤ splitV n ∧ splitV n < n ∧ splitV n ≤ 8 ∧ n - splitV n ≤ 8 := by
  unfold splitV
  repeat' split
  all_goals omega
theorem wd (x : Int) (h0 : 0 ≤ x) (h1 : x ≤ 16) : wrap64 (2 * x) = 2 * x := w64 (by omega) (by omega)
theorem wd' (x : Int) (h0 : 0 ≤ x) (h1 : x ≤ 16) : wrap64 (x * 2) = 2 * x := by rw [w64 (by omega) (by omega)]; omega
theorem impl_split_ev {n : Int} (h : 2 ≤ n) (h1 : n ≤ 16) : Ev (fun k => impl_splitAt.f k n) (splitV n) := by
  unfold impl_splitAt.f splitV
  refine ev_step (fun k => impl_splitAt.l0.eq_2 _ _ _) ?_
  rw [wd 1 (by omega) (by omega), wd' 1 (by omega) (by omega)]
  by_cases c1 : n ≤ 2
  · rw [if_pos c1]; exact ev_neg (by omega) (ev_now rfl)
  rw [if_neg c1]; refine ev_pos (by omega) ?_
  refine ev_step (fun k => impl_splitAt.l0.eq_2 _ _ _) ?_
  rw [wd (2 * 1) (by omega) (by omega), wd' (2 * 1) (by omega) (by omega)]
  by_cases c2 : n ≤ 4
  · rw [if_pos c2]; exact ev_neg (by omega) (ev_now rfl)
  rw [if_neg c2]; refine ev_pos (by omega) ?_
  refine ev_step (fun k => impl_splitAt.l0.eq_2 _ _ _) ?_
  rw [wd (2 * (2 * 1)) (by omega) (by omega), wd' (2 * (2 * 1)) (by omega) (by omega)]
  by_cases c3 : n ≤ 8
  · rw [if_pos c3]; exact ev_neg (by omega) (ev_now rfl)
  rw [if_neg c3]; refine ev_pos (by omega) ?_
  refine ev_step (fun k => impl_splitAt.l0.eq_2 _ _ _) ?_
  rw [wd (2 * (2 * (2 * 1))) (by omega) (by omega)]
  exact ev_neg (by omega) (ev_now rfl)
end Go.Proofs.Ytchmaojmknfbpaa.S

/- The root of a tree of events: what the program's and the reference's come to. For up to 16 events of bytes that fit. -/
set_option linter.unusedVariables false
namespace Go.Proofs.Ytchmaojmknfbpaa.S
open Go.RowKit Go.Proofs.YtchmaojmknfbpaaW.PrintWords Go.Proofs.YtchmaojmknfbpaaW.PrintLast Go.Proofs.YtchmaojmknfbpaaW.PrintMore Go.Proofs.Ytchmaojmknfbpaa.Base Go.Proofs.Ytchmaojmknfbpaa.Sha

def leafV (l : List Int) : List Int := tg (⟨#[108, 101, 97, 102]⟩ : ByteArray) l
def nodeV (l m : List Int) : List Int := tg (⟨#[110, 111, 100, 101]⟩ : ByteArray) (l ++ m)
theorem impl_leaf_eq {l : List Int} (hl : Byt l) (hn : l.length ≤ 4294967296) : impl_LeafDigest.f l = some (leafV l) := by
  have h4 : (⟨#[108, 101, 97, 102]⟩ : ByteArray).size = 4 := rfl
  unfold impl_LeafDigest.f
  rw [impl_tag1 hl (by omega)]
  rfl
theorem impl_node_eq {l m : List Int} (hl : Byt l) (hm : Byt m) (hn : l.length ≤ 4294967296) (hn2 : m.length ≤ 4294967296) : impl_NodeDigest.f l m = some (nodeV l m) := by
  have h4 : (⟨#[110, 111, 100, 101]⟩ : ByteArray).size = 4 := rfl
  unfold impl_NodeDigest.f
  rw [impl_tag2 hl hm (by omega)]
  rfl
/-- How many of n leaves are on the left. -/
def cutV (n : Nat) : Nat := (splitV (n : Int)).toNat
theorem cutV_cast {n : Nat} (h : 2 ≤ n) (h1 : n ≤ 16) : ((cutV n : Nat) : Int) = splitV (n : Int) := by
  have := splitV_range (n := (n : Int)) (by omega) (by omega)
  unfold cutV
  omega
theorem cutV_range {n : Nat} (h : 2 ≤ n) (h1 : n ≤ 16) : 1 ≤ cutV n ∧ cutV n < n := by
  have := splitV_range (n := (n : Int)) (by omega) (by omega)
  have := cutV_cast h h1
  omega
def rootV : Nat → List (List Int) → List Int
  | 0, _ => []
  | m + 1, ls => if ls.length = 0 then tg (⟨#[110, 111, 110, 101]⟩ : ByteArray) [] else if ls.length = 1 then leafV (ls.getD 0 []) else nodeV (rootV m (ls.take (cutV ls.length))) (rootV m (ls.drop (cutV ls.length)))
/-- Leaves that fit. -/
def Leaves (ls : List (List Int)) : Prop := ls.length ≤ 16 ∧ ∀ l ∈ ls, Byt l ∧ l.length ≤ 4294967296
theorem Leaves.take {ls : List (List Int)} (h : Leaves ls) (n : Nat) : Leaves (ls.take n) := ⟨by have := h.1; rw [List.length_take]; omega, fun l hl => h.2 l (List.mem_of_mem_take hl)⟩
theorem Leaves.drop {ls : List (List Int)} (h : Leaves ls) (n : Nat) : Leaves (ls.drop n) := ⟨by have := h.1; rw [List.length_drop]; omega, fun l hl => h.2 l (List.mem_of_mem_drop hl)⟩
theorem rootV_ok : ∀ (m : Nat) (ls : List (List Int)), ls.length ≤ m → Byt (rootV (m + 1) ls) ∧ (rootV (m + 1) ls).length = 32 := by
  intro m
  induction m with
  | zero =>
    intro ls h
    unfold rootV
    rw [if_pos (by omega)]
    exact ⟨tg_byt _ _, tg_length _ _⟩
  | succ m ih =>
    intro ls h
    unfold rootV
    split
    · exact ⟨tg_byt _ _, tg_length _ _⟩
    · split
      · exact ⟨tg_byt _ _, tg_length _ _⟩
      · exact ⟨tg_byt _ _, tg_length _ _⟩
theorem root_evI : ∀ (m : Nat) (ls : List (List Int)), ls.length ≤ m → Leaves ls → Ev (fun k => impl_rootOf.f k ls) (rootV (m + 1) ls) := by
  intro m
  have h4 : (⟨#[110, 111, 110, 101]⟩ : ByteArray).size = 4 := rfl
  induction m with
  | zero =>
    intro ls h hL
    unfold rootV
    rw [if_pos (by omega)]
    exact ev_step (fun k => impl_rootOf.f.eq_2 _ _) (ev_pos (by omega) (ev_bind (ev_now (impl_tag (ls := []) byt_nil (by simp only [List.flatten_nil, List.length_nil]; omega) (by simp))) (ev_now rfl)))
  | succ m ih =>
    intro ls h hL
    by_cases h0 : ls.length = 0
    · unfold rootV
      rw [if_pos h0]
      exact ev_step (fun k => impl_rootOf.f.eq_2 _ _) (ev_pos (by omega) (ev_bind (ev_now (impl_tag (ls := []) byt_nil (by simp only [List.flatten_nil, List.length_nil]; omega) (by simp))) (ev_now rfl)))
    by_cases h1 : ls.length = 1
    · have hm : ls.getD 0 [] ∈ ls := by
        rw [List.getD_eq_getElem?_getD, List.getElem?_eq_getElem (show 0 < ls.length by omega)]
        exact List.getElem_mem _
      obtain ⟨hy, hn⟩ := hL.2 _ hm
      unfold rootV
      rw [if_neg h0, if_pos h1]
      exact ev_step (fun k => impl_rootOf.f.eq_2 _ _) (ev_neg (by omega) (ev_pos (by omega) (ev_pos (by omega) (ev_bind (ev_now (impl_leaf_eq hy hn)) (ev_now rfl)))))
    · have hl := hL.1
      have hc := cutV_range (n := ls.length) (by omega) hl
      have hcc := cutV_cast (n := ls.length) (by omega) hl
      have hi := impl_split_ev (n := (ls.length : Int)) (by omega) (by omega)
      rw [← hcc] at hi
      unfold rootV
      rw [if_neg h0, if_neg h1]
      generalize cutV ls.length = v at *
      have t1 : (ls.take v).length ≤ m := by rw [List.length_take]; omega
      have t2 : (ls.drop v).length ≤ m := by rw [List.length_drop]; omega
      have a1 := ih (ls.take v) t1 (hL.take v)
      have b1 := ih (ls.drop v) t2 (hL.drop v)
      obtain ⟨c1, c2⟩ := rootV_ok m (ls.take v) t1
      obtain ⟨d1, d2⟩ := rootV_ok m (ls.drop v) t2
      refine ev_step (fun k => impl_rootOf.f.eq_2 _ _) (ev_neg (by omega) (ev_neg (by omega) (ev_bind hi (ev_pos (by omega) (ev_pos (by omega) ?_)))))
      rw [Int.toNat_natCast]
      exact ev_bind a1 (ev_bind b1 (ev_bind (ev_now (impl_node_eq c1 d1 (by omega) (by omega))) (ev_now rfl)))
def root (ls : List (List Int)) : List Int := rootV 17 ls
theorem impl_root_ev {ls : List (List Int)} (h : Leaves ls) : Ev (fun k => impl_rootOf.f k ls) (root ls) := root_evI 16 ls h.1 h
theorem root_length {ls : List (List Int)} (h : ls.length ≤ 16) : (root ls).length = 32 := (rootV_ok 16 ls h).2
end Go.Proofs.Ytchmaojmknfbpaa.S

/- How a tree is split, and on which side the other parts are: the program's splitAt and sides and the reference's l3Split and l3Sides agree for 1 to 16 leaves. -/
set_option linter.unusedVariables false
namespace Go.Proofs.Ytchmaojmknfbpaa.S
open Go.RowKit Go.Proofs.YtchmaojmknfbpaaW.PrintWords Go.Proofs.YtchmaojmknfbpaaW.PrintLast Go.Proofs.YtchmaojmknfbpaaW.PrintMore Go.Proofs.Ytchmaojmknfbpaa.Base

theorem spec_split_ev {n : Int} (h : 2 ≤ n) (h1 : n ≤ 16) : Ev (fun k => spec_l3Split.f k n) (splitV n) := by
  unfold spec_l3Split.f splitV
  refine ev_step (fun k => spec_l3Split.l0.eq_2 _ _ _) ?_
  rw [wd 1 (by omega) (by omega)]
  by_cases c1 : n ≤ 2
  · rw [if_pos c1]; exact ev_neg (by omega) (ev_now rfl)
  rw [if_neg c1]; refine ev_pos (by omega) ?_
  refine ev_step (fun k => spec_l3Split.l0.eq_2 _ _ _) ?_
  rw [wd (2 * 1) (by omega) (by omega)]
  by_cases c2 : n ≤ 4
  · rw [if_pos c2]; exact ev_neg (by omega) (ev_now rfl)
  rw [if_neg c2]; refine ev_pos (by omega) ?_
  refine ev_step (fun k => spec_l3Split.l0.eq_2 _ _ _) ?_
  rw [wd (2 * (2 * 1)) (by omega) (by omega)]
  by_cases c3 : n ≤ 8
  · rw [if_pos c3]; exact ev_neg (by omega) (ev_now rfl)
  rw [if_neg c3]; refine ev_pos (by omega) ?_
  refine ev_step (fun k => spec_l3Split.l0.eq_2 _ _ _) ?_
  rw [wd (2 * (2 * (2 * 1))) (by omega) (by omega)]
  exact ev_neg (by omega) (ev_now rfl)
end Go.Proofs.Ytchmaojmknfbpaa.S

/- The root of a tree of events: what the program's and the reference's come to. For up to 16 events of bytes that fit. -/
set_option linter.unusedVariables false
namespace Go.Proofs.Ytchmaojmknfbpaa.S
open Go.RowKit Go.Proofs.YtchmaojmknfbpaaW.PrintWords Go.Proofs.YtchmaojmknfbpaaW.PrintLast Go.Proofs.YtchmaojmknfbpaaW.PrintMore Go.Proofs.Ytchmaojmknfbpaa.Base Go.Proofs.Ytchmaojmknfbpaa.Sha

theorem spec_leaf_eq {l : List Int} (hl : Byt l) (hn : l.length ≤ 4294967296) : spec_LeafDigest.f l = some (leafV l) := by
  have h4 : (⟨#[108, 101, 97, 102]⟩ : ByteArray).size = 4 := rfl
  unfold spec_LeafDigest.f
  rw [spec_tag hl (by omega)]
  rfl
theorem spec_node_eq {l m : List Int} (hl : Byt l) (hm : Byt m) (hn : l.length ≤ 4294967296) (hn2 : m.length ≤ 4294967296) : spec_NodeDigest.f l m = some (nodeV l m) := by
  have h4 : (⟨#[110, 111, 100, 101]⟩ : ByteArray).size = 4 := rfl
  unfold spec_NodeDigest.f
  simp only [Option.bind_some, List.length_nil, List.nil_append]
  rw [if_pos (show 0 + l.length < 140737488355328 by omega), if_pos (show l.length + m.length < 140737488355328 by omega), spec_tag (byt_append hl hm) (by rw [List.length_append]; omega)]
  rfl
theorem root_ev : ∀ (m : Nat) (ls : List (List Int)), ls.length ≤ m → Leaves ls → Ev (fun k => impl_rootOf.f k ls) (rootV (m + 1) ls) ∧ Ev (fun k => spec_l3Root.f k ls) (rootV (m + 1) ls) := by
  intro m
  have h4 : (⟨#[110, 111, 110, 101]⟩ : ByteArray).size = 4 := rfl
  induction m with
  | zero =>
    intro ls h hL
    unfold rootV
    rw [if_pos (by omega)]
    exact ⟨ev_step (fun k => impl_rootOf.f.eq_2 _ _) (ev_pos (by omega) (ev_bind (ev_now (impl_tag (ls := []) byt_nil (by simp only [List.flatten_nil, List.length_nil]; omega) (by simp))) (ev_now rfl))), ev_step (fun k => spec_l3Root.f.eq_2 _ _) (ev_pos (by omega) (ev_bind (ev_now (spec_tag byt_nil (by simp only [List.length_nil]; omega))) (ev_now rfl)))⟩
  | succ m ih =>
    intro ls h hL
    by_cases h0 : ls.length = 0
    · unfold rootV
      rw [if_pos h0]
      exact ⟨ev_step (fun k => impl_rootOf.f.eq_2 _ _) (ev_pos (by omega) (ev_bind (ev_now (impl_tag (ls := []) byt_nil (by simp only [List.flatten_nil, List.length_nil]; omega) (by simp))) (ev_now rfl))), ev_step (fun k => spec_l3Root.f.eq_2 _ _) (ev_pos (by omega) (ev_bind (ev_now (spec_tag byt_nil (by simp only [List.length_nil]; omega))) (ev_now rfl)))⟩
    by_cases h1 : ls.length = 1
    · have hm : ls.getD 0 [] ∈ ls := by
        rw [List.getD_eq_getElem?_getD, List.getElem?_eq_getElem (show 0 < ls.length by omega)]
        exact List.getElem_mem _
      obtain ⟨hy, hn⟩ := hL.2 _ hm
      unfold rootV
      rw [if_neg h0, if_pos h1]
      exact ⟨ev_step (fun k => impl_rootOf.f.eq_2 _ _) (ev_neg (by omega) (ev_pos (by omega) (ev_pos (by omega) (ev_bind (ev_now (impl_leaf_eq hy hn)) (ev_now rfl))))), ev_step (fun k => spec_l3Root.f.eq_2 _ _) (ev_neg (by omega) (ev_pos (by omega) (ev_pos (by omega) (ev_bind (ev_now (spec_leaf_eq hy hn)) (ev_now rfl)))))⟩
    · have hl := hL.1
      have hc := cutV_range (n := ls.length) (by omega) hl
      have hcc := cutV_cast (n := ls.length) (by omega) hl
      have hs := spec_split_ev (n := (ls.length : Int)) (by omega) (by omega)
      have hi := impl_split_ev (n := (ls.length : Int)) (by omega) (by omega)
      rw [← hcc] at hs hi
      unfold rootV
      rw [if_neg h0, if_neg h1]
      generalize cutV ls.length = v at *
      have t1 : (ls.take v).length ≤ m := by rw [List.length_take]; omega
      have t2 : (ls.drop v).length ≤ m := by rw [List.length_drop]; omega
      obtain ⟨a1, a2⟩ := ih (ls.take v) t1 (hL.take v)
      obtain ⟨b1, b2⟩ := ih (ls.drop v) t2 (hL.drop v)
      obtain ⟨c1, c2⟩ := rootV_ok m (ls.take v) t1
      obtain ⟨d1, d2⟩ := rootV_ok m (ls.drop v) t2
      refine ⟨ev_step (fun k => impl_rootOf.f.eq_2 _ _) (ev_neg (by omega) (ev_neg (by omega) (ev_bind hi (ev_pos (by omega) (ev_pos (by omega) ?_))))), ev_step (fun k => spec_l3Root.f.eq_2 _ _) (ev_neg (by omega) (ev_neg (by omega) (ev_bind hs (ev_pos (by omega) (ev_pos (by omega) ?_)))))⟩
      · rw [Int.toNat_natCast]
        exact ev_bind a1 (ev_bind b1 (ev_bind (ev_now (impl_node_eq c1 d1 (by omega) (by omega))) (ev_now rfl)))
      · rw [Int.toNat_natCast]
        exact ev_bind a2 (ev_bind b2 (ev_bind (ev_now (spec_node_eq c1 d1 (by omega) (by omega))) (ev_now rfl)))
theorem spec_root_ev {ls : List (List Int)} (h : Leaves ls) : Ev (fun k => spec_l3Root.f k ls) (root ls) := (root_ev 16 ls h.1 h).2
end Go.Proofs.Ytchmaojmknfbpaa.S

/- The leaves of a key: what the program's and the reference's come to. For all bytes that fit. -/
set_option linter.unusedVariables false
namespace Go.Proofs.Ytchmaojmknfbpaa.S
open Go.RowKit Go.Proofs.YtchmaojmknfbpaaW.PrintWords Go.Proofs.YtchmaojmknfbpaaW.PrintLast Go.Proofs.YtchmaojmknfbpaaW.PrintMore Go.Proofs.Ytchmaojmknfbpaa.Base Go.Proofs.Ytchmaojmknfbpaa.Sha

def keyLeavesV (l : List Int) : Nat → List (List Int)
  | 0 => []
  | n + 1 => keyLeavesV l n ++ [publicV l (n : Int)]
theorem keyLeavesV_length (l : List Int) : ∀ n, (keyLeavesV l n).length = n
  | 0 => rfl
  | n + 1 => by
    show (keyLeavesV l n ++ [publicV l (n : Int)]).length = _
    rw [List.length_append, keyLeavesV_length l n]
    rfl
theorem keyLeavesV_mem (l : List Int) : ∀ n, ∀ x ∈ keyLeavesV l n, Byt x ∧ x.length = 608
  | 0, x, hx => by cases hx
  | n + 1, x, hx => by
    rcases List.mem_append.1 hx with h | h
    · exact keyLeavesV_mem l n x h
    · rw [List.mem_singleton.1 h]
      exact ⟨publicV_byt l _, publicV_length l _⟩
theorem impl_leaves_l0 {l : List Int} (hl : Byt l) (hn : l.length ≤ 4294967296) : ∀ (d i : Nat), i + d = 4 → Ev (fun k => impl_publicLeaves.l0 k l (keyLeavesV l i) (i : Int)) (keyLeavesV l 4) := by
  intro d
  induction d with
  | zero =>
    intro i hi
    obtain rfl : i = 4 := by omega
    exact ev_step (fun k => impl_publicLeaves.l0.eq_2 _ _ _ _) (ev_neg (by omega) (ev_now rfl))
  | succ d ih =>
    intro i hi
    refine ev_step (fun k => impl_publicLeaves.l0.eq_2 _ _ _ _) (ev_pos (by omega) (ev_bind (impl_public_ev hl hn (i : Int)) (ev_pos (by rw [keyLeavesV_length]; omega) ?_)))
    rw [w64s (by omega)]
    exact ih (i + 1) (by omega)
theorem spec_leaves_l0 {l : List Int} (hl : Byt l) (hn : l.length ≤ 4294967296) : ∀ (d i : Nat), i + d = 4 → Ev (fun k => spec_l4Leaves.l0 k l (keyLeavesV l i) (i : Int)) (keyLeavesV l 4) := by
  intro d
  induction d with
  | zero =>
    intro i hi
    obtain rfl : i = 4 := by omega
    exact ev_step (fun k => spec_l4Leaves.l0.eq_2 _ _ _ _) (ev_neg (by omega) (ev_now rfl))
  | succ d ih =>
    intro i hi
    refine ev_step (fun k => spec_l4Leaves.l0.eq_2 _ _ _ _) (ev_pos (by omega) (ev_bind (spec_public_ev hl hn (i : Int)) (ev_pos (by rw [keyLeavesV_length]; omega) ?_)))
    rw [w64s (by omega)]
    exact ih (i + 1) (by omega)
def keyLeaves (l : List Int) : List (List Int) := keyLeavesV l 4
theorem keyLeaves_length (l : List Int) : (keyLeaves l).length = 4 := keyLeavesV_length l 4
theorem keyLeaves_ok (l : List Int) : Leaves (keyLeaves l) := ⟨by rw [keyLeaves_length]; omega, fun x hx => ⟨(keyLeavesV_mem l 4 x hx).1, by rw [(keyLeavesV_mem l 4 x hx).2]; omega⟩⟩
theorem impl_leaves_ev {l : List Int} (hl : Byt l) (hn : l.length ≤ 4294967296) : Ev (fun k => impl_publicLeaves.f k l) (keyLeaves l) := impl_leaves_l0 hl hn 4 0 (by omega)
theorem spec_leaves_ev {l : List Int} (hl : Byt l) (hn : l.length ≤ 4294967296) : Ev (fun k => spec_l4Leaves.f k l) (keyLeaves l) := spec_leaves_l0 hl hn 4 0 (by omega)
end Go.Proofs.Ytchmaojmknfbpaa.S

/- Paths in a tree: the program's and the reference's come to the same. For up to 16 leaves that fit. -/
set_option linter.unusedVariables false
namespace Go.Proofs.Ytchmaojmknfbpaa.S
open Go.RowKit Go.Proofs.YtchmaojmknfbpaaW.PrintWords Go.Proofs.YtchmaojmknfbpaaW.PrintLast Go.Proofs.YtchmaojmknfbpaaW.PrintMore Go.Proofs.Ytchmaojmknfbpaa.Base Go.Proofs.Ytchmaojmknfbpaa.Sha

def pathV : Nat → List (List Int) → Int → List (List Int)
  | 0, _, _ => []
  | m + 1, ls, a => if ls.length = 1 then [] else if a < (cutV ls.length : Int) then pathV m (ls.take (cutV ls.length)) a ++ [root (ls.drop (cutV ls.length))] else pathV m (ls.drop (cutV ls.length)) (a - (cutV ls.length : Int)) ++ [root (ls.take (cutV ls.length))]
theorem pathV_ok : ∀ (m : Nat) (ls : List (List Int)) (a : Int), ls.length ≤ 16 → (pathV m ls a).length ≤ m ∧ ∀ l ∈ pathV m ls a, l.length = 32 := by
  intro m
  induction m with
  | zero => intro ls a h; exact ⟨Nat.le_refl _, fun l hl => (by cases hl)⟩
  | succ m ih =>
    intro ls a h
    have t1 : (ls.take (cutV ls.length)).length ≤ 16 := by rw [List.length_take]; omega
    have t2 : (ls.drop (cutV ls.length)).length ≤ 16 := by rw [List.length_drop]; omega
    have r1 := root_length t1
    have r2 := root_length t2
    unfold pathV
    generalize root (ls.take (cutV ls.length)) = q1 at *
    generalize root (ls.drop (cutV ls.length)) = q2 at *
    by_cases c1 : ls.length = 1
    · rw [if_pos c1]; exact ⟨Nat.zero_le _, fun l hl => (by cases hl)⟩
    rw [if_neg c1]
    by_cases c2 : a < (cutV ls.length : Int)
    · rw [if_pos c2]
      obtain ⟨i1, i2⟩ := ih (ls.take (cutV ls.length)) a t1
      refine ⟨by rw [List.length_append, List.length_singleton]; omega, fun l hl => ?_⟩
      rcases List.mem_append.1 hl with hl | hl
      · exact i2 l hl
      · rw [List.mem_singleton.1 hl]; exact r2
    · rw [if_neg c2]
      obtain ⟨i1, i2⟩ := ih (ls.drop (cutV ls.length)) (a - (cutV ls.length : Int)) t2
      refine ⟨by rw [List.length_append, List.length_singleton]; omega, fun l hl => ?_⟩
      rcases List.mem_append.1 hl with hl | hl
      · exact i2 l hl
      · rw [List.mem_singleton.1 hl]; exact r1
end Go.Proofs.Ytchmaojmknfbpaa.S

/- Paths in a tree: the program's and the reference's come to the same. For up to 16 leaves that fit. -/
set_option linter.unusedVariables false
namespace Go.Proofs.Ytchmaojmknfbpaa.S
open Go.RowKit Go.Proofs.YtchmaojmknfbpaaW.PrintWords Go.Proofs.YtchmaojmknfbpaaW.PrintLast Go.Proofs.YtchmaojmknfbpaaW.PrintMore Go.Proofs.Ytchmaojmknfbpaa.Base Go.Proofs.Ytchmaojmknfbpaa.Sha

theorem path_ev : ∀ (m : Nat) (ls : List (List Int)) (a : Int), m ≤ 1000 → ls.length ≤ m → Leaves ls → 0 ≤ a → a < ls.length → Ev (fun k => impl_pathOf.f k ls a) (pathV m ls a) ∧ Ev (fun k => spec_l3Path.f k ls a) (pathV m ls a) := by
  intro m
  induction m with
  | zero => intro ls a hm h hL h0 h1; omega
  | succ m ih =>
    intro ls a hm h hL h0 h1
    by_cases c1 : ls.length = 1
    · unfold pathV
      rw [if_pos c1]
      exact ⟨ev_step (fun k => impl_pathOf.f.eq_2 _ _ _) (ev_pos (by omega) (ev_now rfl)), ev_step (fun k => spec_l3Path.f.eq_2 _ _ _) (ev_pos (by omega) (ev_now rfl))⟩
    · have hl := hL.1
      have hc := cutV_range (n := ls.length) (by omega) hl
      have hcc := cutV_cast (n := ls.length) (by omega) hl
      have hs := spec_split_ev (n := (ls.length : Int)) (by omega) (by omega)
      have hi := impl_split_ev (n := (ls.length : Int)) (by omega) (by omega)
      rw [← hcc] at hs hi
      unfold pathV
      rw [if_neg c1]
      generalize cutV ls.length = v at *
      have t1 : (ls.take v).length = v := by rw [List.length_take]; omega
      have t2 : (ls.drop v).length = ls.length - v := by rw [List.length_drop]
      have i1 := impl_root_ev (hL.take v)
      have i2 := impl_root_ev (hL.drop v)
      have s1 := spec_root_ev (hL.take v)
      have s2 := spec_root_ev (hL.drop v)
      by_cases c2 : a < (v : Int)
      · rw [if_pos c2]
        obtain ⟨p1, p2⟩ := ih (ls.take v) a (by omega) (by omega) (hL.take v) h0 (by omega)
        obtain ⟨o1, _⟩ := pathV_ok m (ls.take v) a (by omega)
        refine ⟨ev_step (fun k => impl_pathOf.f.eq_2 _ _ _) (ev_neg (by omega) (ev_bind hi (ev_pos c2 (ev_pos (by omega) (ev_pos (by omega) ?_))))), ev_step (fun k => spec_l3Path.f.eq_2 _ _ _) (ev_neg (by omega) (ev_bind hs (ev_pos c2 (ev_pos (by omega) (ev_pos (by omega) ?_)))))⟩
        · rw [Int.toNat_natCast]
          exact ev_bind p1 (ev_bind i2 (ev_pos (by omega) (ev_now rfl)))
        · rw [Int.toNat_natCast]
          exact ev_bind p2 (ev_bind s2 (ev_pos (by omega) (ev_now rfl)))
      · rw [if_neg c2]
        obtain ⟨p1, p2⟩ := ih (ls.drop v) (a - (v : Int)) (by omega) (by omega) (hL.drop v) (by omega) (by omega)
        obtain ⟨o1, _⟩ := pathV_ok m (ls.drop v) (a - (v : Int)) (by omega)
        refine ⟨ev_step (fun k => impl_pathOf.f.eq_2 _ _ _) (ev_neg (by omega) (ev_bind hi (ev_neg c2 (ev_pos (by omega) (ev_pos (by omega) ?_))))), ev_step (fun k => spec_l3Path.f.eq_2 _ _ _) (ev_neg (by omega) (ev_bind hs (ev_neg c2 (ev_pos (by omega) (ev_pos (by omega) ?_)))))⟩
        · rw [Int.toNat_natCast, w64 (n := a - (v : Int)) (by omega) (by omega)]
          exact ev_bind p1 (ev_bind i1 (ev_pos (by omega) (ev_now rfl)))
        · rw [Int.toNat_natCast, w64 (n := a - (v : Int)) (by omega) (by omega)]
          exact ev_bind p2 (ev_bind s1 (ev_pos (by omega) (ev_now rfl)))
end Go.Proofs.Ytchmaojmknfbpaa.S

/- The signature of a message: what the program's and the reference's come to. For all bytes that fit. -/
set_option linter.unusedVariables false
namespace Go.Proofs.Ytchmaojmknfbpaa.S
open Go.RowKit Go.Proofs.YtchmaojmknfbpaaW.PrintWords Go.Proofs.YtchmaojmknfbpaaW.PrintLast Go.Proofs.YtchmaojmknfbpaaW.PrintMore Go.Proofs.Ytchmaojmknfbpaa.Base Go.Proofs.Ytchmaojmknfbpaa.Sha

theorem digs_rangeS : ∀ l : List Int, ∀ x ∈ digs l, 0 ≤ x ∧ x ≤ 3
  | [], x, hx => by cases hx
  | c :: l, x, hx => by
    simp only [digs, four4, List.mem_append, List.mem_cons, List.not_mem_nil, or_false] at hx
    rcases hx with (rfl | rfl | rfl | rfl) | hx
    · omega
    · omega
    · omega
    · omega
    · exact digs_rangeS l x hx
theorem digitsOf_rangeS (l : List Int) : ∀ x ∈ digitsOfV l, 0 ≤ x ∧ x ≤ 3 := by
  intro x hx
  have hr := rests_range ((tg msgTag l).take 4)
  have h4 : ((tg msgTag l).take 4).length ≤ 4 := by rw [List.length_take]; omega
  rcases List.mem_append.1 hx with h | h
  · exact digs_rangeS _ x h
  · simp only [endsD, List.mem_cons, List.not_mem_nil, or_false] at h
    rcases h with rfl | rfl | rfl <;> omega
/-- The parts of a signature. -/
def partsV (l : List Int) (a : Int) (ds : List Int) : Nat → List (List Int)
  | 0 => []
  | n + 1 => partsV l a ds n ++ [stepsV (rd ds (n : Int)).toNat (secV l a (n : Int))]
theorem partsV_length (l : List Int) (a : Int) (ds : List Int) : ∀ n, (partsV l a ds n).length = n
  | 0 => rfl
  | n + 1 => by
    show (partsV l a ds n ++ [stepsV (rd ds (n : Int)).toNat (secV l a (n : Int))]).length = _
    rw [List.length_append, partsV_length l a ds n]
    rfl
theorem partsV_mem (l : List Int) (a : Int) (ds : List Int) : ∀ n, ∀ x ∈ partsV l a ds n, x.length = 32
  | 0, x, hx => by cases hx
  | n + 1, x, hx => by
    rcases List.mem_append.1 hx with h | h
    · exact partsV_mem l a ds n x h
    · rw [List.mem_singleton.1 h]
      rcases stepsV_length (rd ds (n : Int)).toNat (secV l a (n : Int)) with h | h
      · rw [h.2, secV_length]
      · exact h.2
theorem rd_range {ds : List Int} (hr : ∀ x ∈ ds, 0 ≤ x ∧ x ≤ 3) (i : Nat) (hi : i < ds.length) : 0 ≤ rd ds (i : Int) ∧ rd ds (i : Int) ≤ 3 := by
  unfold rd
  rw [Int.toNat_natCast, List.getD_eq_getElem?_getD, List.getElem?_eq_getElem hi]
  exact hr _ (List.getElem_mem hi)
section
variable {l : List Int} (hl : Byt l) (hn : l.length ≤ 4294967296) (a : Int) (ds : List Int) (hd : ds.length = 19) (hr : ∀ x ∈ ds, 0 ≤ x ∧ x ≤ 3) (z1 z2 : Int) (ps : List (List Int))
include hl hn hd hr
theorem impl_sign_l0 : ∀ (d i : Nat), i + d = 19 → Ev (fun k => impl_sign.l0 k l a ds (ds.length : Int) (i : Int) a (partsV l a ds i) z1 z2 ps) (a, partsV l a ds 19, z1, z2, ps) := by
  intro d
  induction d with
  | zero =>
    intro i hi
    obtain rfl : i = 19 := by omega
    exact ev_step (fun k => impl_sign.l0.eq_2 _ _ _ _ _ _ _ _ _ _ _) (ev_neg (by omega) (ev_now rfl))
  | succ d ih =>
    intro i hi
    obtain ⟨h0, h1⟩ := rd_range hr i (by omega)
    have hc := climb_ev (secV_byt l a (i : Int)) (by rw [secV_length]; omega) (rd ds (i : Int)).toNat (by omega)
    rw [show (((rd ds (i : Int)).toNat : Nat) : Int) = rd ds (i : Int) by omega] at hc
    refine ev_step (fun k => impl_sign.l0.eq_2 _ _ _ _ _ _ _ _ _ _ _) (ev_pos (by omega) (ev_pos (by omega) (ev_pos (by omega) (ev_bind (ev_now (impl_secret_eq hl hn a (i : Int))) (ev_bind hc (ev_pos (by rw [partsV_length]; omega) ?_))))))
    rw [w64s (by omega)]
    exact ih (i + 1) (by omega)
theorem spec_sign_l0 : ∀ (d i : Nat), i + d = 19 → Ev (fun k => spec_l4Sign.l0 k l a ds (i : Int) a (partsV l a ds i) z1 z2 ps) (a, partsV l a ds 19, z1, z2, ps) := by
  intro d
  induction d with
  | zero =>
    intro i hi
    obtain rfl : i = 19 := by omega
    exact ev_step (fun k => spec_l4Sign.l0.eq_2 _ _ _ _ _ _ _ _ _ _) (ev_neg (by omega) (ev_now rfl))
  | succ d ih =>
    intro i hi
    obtain ⟨h0, h1⟩ := rd_range hr i (by omega)
    have hc := l4Step_ev (rd ds (i : Int)).toNat (secV_byt l a (i : Int)) (by rw [secV_length]; omega) (by omega)
    rw [show (((rd ds (i : Int)).toNat : Nat) : Int) = rd ds (i : Int) by omega] at hc
    refine ev_step (fun k => spec_l4Sign.l0.eq_2 _ _ _ _ _ _ _ _ _ _) (ev_pos (by omega) (ev_bind (ev_now (spec_secret_eq hl hn a (i : Int))) (ev_pos (by omega) (ev_pos (by omega) (ev_bind hc (ev_pos (by rw [partsV_length]; omega) ?_))))))
    rw [w64s (by omega)]
    exact ih (i + 1) (by omega)
end
/-- What is answered. -/
def signV (l : List Int) (a : Int) (m : List Int) : Int × Int × List (List Int) × Int × Int × List (List Int) :=
  if l.length > 200 ∨ m.length > 4000 then (2, 0, [], 0, 0, []) else if 0 ≤ a ∧ a ≤ 3 then (0, a, partsV l a (digitsOfV m) 19, a, 4, pathV 16 (keyLeaves l) a) else (3, 0, [], 0, 0, [])
theorem signV_ok (l : List Int) (a : Int) (m : List Int) : ((signV l a m).2.2.1.length ≤ 19 ∧ ∀ x ∈ (signV l a m).2.2.1, x.length ≤ 32) ∧ ((signV l a m).2.2.2.2.2.length ≤ 16 ∧ ∀ x ∈ (signV l a m).2.2.2.2.2, x.length ≤ 32) := by
  unfold signV
  split
  · exact ⟨⟨Nat.zero_le _, fun x hx => by cases hx⟩, ⟨Nat.zero_le _, fun x hx => by cases hx⟩⟩
  split
  · have h := pathV_ok 16 (keyLeaves l) a (by rw [keyLeaves_length]; omega)
    exact ⟨⟨Nat.le_of_eq (partsV_length _ _ _ _), fun x hx => Nat.le_of_eq (partsV_mem _ _ _ _ x hx)⟩, ⟨h.1, fun x hx => Nat.le_of_eq (h.2 x hx)⟩⟩
  · exact ⟨⟨Nat.zero_le _, fun x hx => by cases hx⟩, ⟨Nat.zero_le _, fun x hx => by cases hx⟩⟩
theorem impl_SignMessage_ev {l m : List Int} (hl : Byt l) (hn : l.length ≤ 4294967296) (hm : Byt m) (hk : m.length ≤ 4294967296) (a : Int) : Ev (fun k => impl_SignMessage.f k l a m) (signV l a m) := by
  unfold impl_SignMessage.f signV
  by_cases c : l.length > 200
  · rw [if_pos (.inl c)]
    exact ev_pos (by omega) (ev_step (fun k => impl_SignMessage.j0.eq_2 _ _ _ _ _) (ev_pos rfl (ev_now rfl)))
  by_cases d : m.length > 4000
  · rw [if_pos (.inr d)]
    exact ev_neg (by omega) (ev_step (fun k => impl_SignMessage.j0.eq_2 _ _ _ _ _) (ev_pos (decide_eq_true (by omega)) (ev_now rfl)))
  rw [if_neg (by omega)]
  refine ev_neg (by omega) (ev_step (fun k => impl_SignMessage.j0.eq_2 _ _ _ _ _) (ev_neg (by rw [decide_eq_false (show ¬ ((m.length : Int) > 4000) by omega)]; decide) (ev_bind (ev_now (show impl_isLeaf.f a = some (decide (0 ≤ a ∧ a ≤ 3)) from by unfold impl_isLeaf.f; rw [in_eq]; rfl)) ?_)))
  by_cases g : 0 ≤ a ∧ a ≤ 3
  · rw [if_pos g]
    refine ev_pos (decide_eq_true g) (ev_bind (a := (a, partsV l a (digitsOfV m) 19, a, 4, pathV 16 (keyLeaves l) a)) ?_ (ev_now rfl))
    unfold impl_sign.f
    have hp := (path_ev 16 (keyLeaves l) a (by omega) (by rw [keyLeaves_length]; omega) (keyLeaves_ok l) g.1 (by rw [keyLeaves_length]; omega)).1
    refine ev_bind (impl_leaves_ev hl hn) (ev_bind (a := (a, 4, pathV 16 (keyLeaves l) a)) ?_ (ev_bind (impl_DigitsOf_ev hm hk) ?_))
    · unfold impl_proveLeaf.f
      refine ev_bind hp ?_
      rw [keyLeaves_length]
      exact ev_now rfl
    · exact impl_sign_l0 hl hn a (digitsOfV m) (digitsOfV_length m) (digitsOf_rangeS m) a 4 _ 19 0 (by omega)
  · rw [if_neg g]
    exact ev_neg (fun h => g (of_decide_eq_true h)) (ev_now rfl)
theorem spec_SignMessage_ev {l m : List Int} (hl : Byt l) (hn : l.length ≤ 4294967296) (hm : Byt m) (hk : m.length ≤ 4294967296) (a : Int) : Ev (fun k => spec_SignMessage.f k l a m) (signV l a m) := by
  unfold spec_SignMessage.f signV
  by_cases d : m.length > 4000
  · rw [if_pos (.inr d)]
    exact ev_pos (by omega) (ev_now rfl)
  refine ev_neg (by omega) (ev_bind (ev_now (spec_asked_eq l a)) ?_)
  unfold askV
  by_cases c : l.length > 200
  · rw [if_pos c, if_pos (.inl c)]
    exact ev_neg (by decide) (ev_now rfl)
  rw [if_neg c, if_neg (show ¬ (l.length > 200 ∨ m.length > 4000) by omega)]
  by_cases g : 0 ≤ a ∧ a ≤ 3
  · rw [if_pos g, if_pos g]
    refine ev_pos rfl (ev_bind (a := (a, partsV l a (digitsOfV m) 19, a, 4, pathV 16 (keyLeaves l) a)) ?_ (ev_now rfl))
    unfold spec_l4Sign.f
    have hp := (path_ev 16 (keyLeaves l) a (by omega) (by rw [keyLeaves_length]; omega) (keyLeaves_ok l) g.1 (by rw [keyLeaves_length]; omega)).2
    refine ev_bind (spec_leaves_ev hl hn) (ev_bind (a := (a, 4, pathV 16 (keyLeaves l) a)) ?_ (ev_bind (spec_DigitsOf_ev hm hk) ?_))
    · unfold spec_l3Prove.f
      refine ev_bind hp ?_
      rw [keyLeaves_length]
      exact ev_now rfl
    · exact spec_sign_l0 hl hn a (digitsOfV m) (digitsOfV_length m) (digitsOf_rangeS m) a 4 _ 19 0 (by omega)
  · rw [if_neg g, if_neg g]
    exact ev_neg (by decide) (ev_now rfl)
end Go.Proofs.Ytchmaojmknfbpaa.S

/- An element of rows of rows. -/
set_option linter.unusedVariables false
namespace Go.Proofs.Ytchmaojmknfbpaa.S
open Go.RowKit Go.Proofs.YtchmaojmknfbpaaW.PrintWords Go.Proofs.YtchmaojmknfbpaaW.PrintLast Go.Proofs.YtchmaojmknfbpaaW.PrintMore Go.Proofs.Ytchmaojmknfbpaa.Base

theorem rdLL (ls : List (List Int)) (i : Nat) (h : i < ls.length) : rd_L1 ls (i : Int) = ls[i] := by
  unfold rd_L1
  simp [List.getD_eq_getElem?_getD, List.getElem?_eq_getElem h]
end Go.Proofs.Ytchmaojmknfbpaa.S

/- How many places are left behind a slice of bytes. -/
set_option linter.unusedVariables false
namespace Go.Proofs.Ytchmaojmknfbpaa.S
open Go.RowKit Go.Proofs.YtchmaojmknfbpaaW.PrintWords Go.Proofs.YtchmaojmknfbpaaW.PrintLast Go.Proofs.YtchmaojmknfbpaaW.PrintMore Go.Proofs.Ytchmaojmknfbpaa.Base

def szV (n : Nat) (a : Int) : Int := if a - n < 0 then -1 else a - n
end Go.Proofs.Ytchmaojmknfbpaa.S

/- What the laws' helpers on slices of byte slices come to: a copy, a comparison, a size. For all that fit memory. -/
set_option linter.unusedVariables false
namespace Go.Proofs.Ytchmaojmknfbpaa.S
open Go.RowKit Go.Proofs.YtchmaojmknfbpaaW.PrintWords Go.Proofs.YtchmaojmknfbpaaW.PrintLast Go.Proofs.YtchmaojmknfbpaaW.PrintMore Go.Proofs.Ytchmaojmknfbpaa.Base

theorem eqByteSS_l0 (ls : List (List Int)) (hl : ls.length ≤ 11728124029610) (hi : ∀ l ∈ ls, l.length ≤ 281474976710656) : ∀ (d i : Nat), i + d = ls.length → Ev (fun k => laws_eqByteSS.l0 k ls ls (i : Int)) true := by
  intro d
  induction d with
  | zero =>
    intro i h
    exact ev_step (fun k => laws_eqByteSS.l0.eq_2 _ _ _ _) (ev_neg (by omega) (ev_now rfl))
  | succ d ih =>
    intro i h
    have hlt : i < ls.length := by omega
    refine ev_step (fun k => laws_eqByteSS.l0.eq_2 _ _ _ _) (ev_pos (by omega) (ev_pos (by omega) (ev_pos (by omega) ?_)))
    rw [rdLL ls i hlt]
    refine ev_bind (eqByteS_ev ls[i] (hi _ (List.getElem_mem _))) (ev_pos rfl ?_)
    rw [w64s (by omega)]
    exact ih (i + 1) (by omega)
theorem eqByteSS_ev (ls : List (List Int)) (hl : ls.length ≤ 11728124029610) (hi : ∀ l ∈ ls, l.length ≤ 281474976710656) : Ev (fun k => laws_eqByteSS.f k ls ls) true := by
  unfold laws_eqByteSS.f
  exact ev_pos rfl (eqByteSS_l0 ls hl hi ls.length 0 (by omega))
end Go.Proofs.Ytchmaojmknfbpaa.S

/- Rows of rows of the call's own, no two of which share memory; where in memory they lie; what the laws' marks make of them. No condition beyond those in the statements. -/
set_option linter.unusedVariables false
set_option linter.unusedSimpArgs false
namespace Go.Proofs.Ytchmaojmknfbpaa.S
open Go Go.RowKit Go.Proofs.YtchmaojmknfbpaaW.PrintWords Go.Proofs.YtchmaojmknfbpaaW.PrintLast Go.Proofs.YtchmaojmknfbpaaW.PrintMore Go.Proofs.Ytchmaojmknfbpaa.Base

def In (lo hi : Nat) : Nat → Prop := fun k => lo ≤ k ∧ k < hi
theorem In_apart {lo hi a b : Nat} (h : hi ≤ a ∨ b ≤ lo) : ∀ k, In lo hi k → ¬ In a b k := fun k h1 h2 => by
  unfold In at h1 h2
  omega
theorem add_block (ad : Addr) (i : Nat) : (ad.add i).block = ad.block := by
  unfold Addr.add
  split <;> rfl
/-- Rows of bytes, each its own memory, all between lo and hi. -/
def AR (base : Nat) (w : World) (lo hi : Nat) (A : Option Addr) (ls : List (List Int)) : Prop :=
  ls.length ≤ 9223372036854775807 ∧ (ls = [] ∨ ∃ (ad : Addr) (vs : Nat → Value), A = some ad ∧ (lo ≤ ad.block ∧ ad.block < hi) ∧
    (∀ i, (h : i < ls.length) → w.cell? (ad.add i) = some (vs i) ∧ Kd.R (Kd.int .u8) 5 w base (fun k => some k = (vs i).ownBlock) (vs i) ls[i]) ∧
    (∀ i k, i < ls.length → (vs i).ownBlock = some k → (lo ≤ k ∧ k < hi) ∧ k ≠ ad.block) ∧
    (∀ i j k, i < ls.length → j < ls.length → i ≠ j → (vs i).ownBlock = some k → (vs j).ownBlock ≠ some k))
section
variable {base lo hi a b : Nat} {w w1 : World} {A : Option Addr} {ls : List (List Int)}
theorem AR.below (h : AR base w lo hi A ls) (hb : Below w.heap.size w w1) : AR base w1 lo hi A ls := by
  refine ⟨h.1, h.2.imp id ?_⟩
  rintro ⟨ad, vs, hA, hg, hr, hin, hap⟩
  exact ⟨ad, vs, hA, hg, fun i hi => ⟨(hb.cell (World.block_lt_of_cell? w _ (hr i hi).1)).trans (hr i hi).1, Kd.R_below (hr i hi).2 hb⟩, hin, hap⟩
theorem AR.kept (h : AR base w lo hi A ls) (hk : Kept w w1 (In a b)) (hd : hi ≤ a ∨ b ≤ lo) : AR base w1 lo hi A ls := by
  refine ⟨h.1, h.2.imp id ?_⟩
  rintro ⟨ad, vs, hA, hg, hr, hin, hap⟩
  exact ⟨ad, vs, hA, hg, fun i hi => ⟨cell_kept (hr i hi).1 hk (by rw [add_block]; exact In_apart hd _ hg), Kd.R_kept (hr i hi).2 hk (fun k hk2 => In_apart hd k (hin i k hi hk2.symm).1)⟩, hin, hap⟩
theorem AR.foot (h : AR base w lo hi A ls) : Kd.F (Kd.slice 5 (Kd.int .u8)) w (In lo hi) A ls.length ls := fun W' hW => by
  refine ⟨rfl, h.1, fun hp => ?_⟩
  rcases h.2 with rfl | ⟨ad, vs, hA, hg, hr, hin, hap⟩
  · simp at hp
  refine ⟨ad, hA, fun j p hj => ?_⟩
  obtain ⟨hjl, hpj⟩ := List.getElem?_eq_some_iff.1 hj
  obtain ⟨hc, hR⟩ := hr j hjl
  have hR2 : Kd.R (Kd.int .u8) 5 W' base (fun k => some k = (vs j).ownBlock) (vs j) ls[j] := Kd.R_step hR (fun k ho hlt => hW k (hin j k hjl ho.symm).1 hlt)
  rw [hpj] at hR2
  obtain ⟨A', c', hv⟩ := Kd.R_slice hR2
  rw [hv] at hR2
  obtain ⟨_, h2, h3⟩ := Kd.R_reads' hR2
  refine ⟨[vs j], rfl, ⟨A', c', by rw [hv], h2, h3⟩, fun i u hu => ?_⟩
  cases i with
  | zero =>
    have e1 : vs j = u := by simpa using hu
    rw [← e1]
    show W'.cell? (ad.add (j * 1 + 0)) = _
    rw [Nat.mul_one, Nat.add_zero]
    have hb := hW ad.block hg (by have := World.block_lt_of_cell? w _ hc; rwa [add_block] at this)
    rw [← hc]
    unfold World.cell?
    rw [add_block, hb]
  | succ i => simp at hu
end
/-- What the printed walks call apart is so. -/
theorem AR_of_S {e base base0 : Nat} {ok : Nat → Prop} {w : World} {v : Value} {ls : List (List Int)} (h : Kd.S (Kd.slice 5 (Kd.int .u8)) e w base0 ok v ls) (hb : base ≤ base0) :
    ∃ A c, v = .slice A ls.length c ∧ ls.length ≤ c ∧ AR base w base0 w.heap.size A ls := by
  have hR := Kd.S_R h
  obtain ⟨A, c, rfl⟩ := Kd.R_slice hR
  obtain ⟨_, hc, hC⟩ := Kd.R_reads' hR
  refine ⟨A, c, rfl, hc, hC.2.1, ?_⟩
  by_cases hz : ls = []
  · exact .inl hz
  have hp : 0 < ls.length := by cases ls with
    | nil => exact absurd rfl hz
    | cons x l => simp
  obtain ⟨f, hf⟩ := h
  obtain ⟨g, cap, hv, hg0, hg1, cells, hcells⟩ := Kd.R_form hR hp
  injection hv with hv1 hv2 hv3
  subst hv1
  have each : ∀ i, (hi : i < ls.length) → ∃ u, w.cell? ⟨g, i, none⟩ = some u ∧ Kd.R (Kd.int .u8) 5 w base0 (fun k => (ok k ∧ k ≠ g) ∧ f k = i) u ls[i] := fun i hi => by
    obtain ⟨cs, hcl, hM, hcc, _⟩ := Kd.R_elem (d := Kd.tag f (Kd.slice 5 (Kd.int .u8))) hf ([], 0) (i : Int) (by omega) (by omega)
    have e1 : ls.zipIdx.getD (i : Int).toNat ([], 0) = (ls[i], i) := by
      rw [Int.toNat_natCast, List.getD_eq_getElem?_getD, Kd.zip_at (List.getElem?_eq_getElem hi)]
      rfl
    rw [e1] at hM
    obtain ⟨u, rfl, hu⟩ := hM
    refine ⟨u, ?_, hu⟩
    have h1 := hcc 0 u rfl
    rw [Int.toNat_natCast] at h1
    have h2 : w.cell? ⟨g, i * 1 + 0, none⟩ = some u := h1
    rwa [Nat.mul_one, Nat.add_zero] at h2
  refine .inr ⟨⟨g, 0, none⟩, fun i => (w.cell? ⟨g, i, none⟩).getD (.bool false), rfl, ⟨hg0, hg1⟩, fun i hi => ?_, fun i k hi hk => ?_, fun i j k hi hj hij hk hk2 => ?_⟩
  · obtain ⟨u, hu, hr⟩ := each i hi
    rw [add_plain]
    simp only [hu, Option.getD_some]
    exact ⟨trivial, Kd.R_lower (Kd.R_tight rfl hr) hb⟩
  · obtain ⟨u, hu, hr⟩ := each i hi
    simp only [hu, Option.getD_some] at hk
    have := (Kd.R_bound hr).1 k hk
    exact ⟨⟨this.2.1, this.2.2.1⟩, this.1.1.2⟩
  · obtain ⟨u, hu, hr⟩ := each i hi
    obtain ⟨u2, hu2, hr2⟩ := each j hj
    simp only [hu, Option.getD_some] at hk
    simp only [hu2, Option.getD_some] at hk2
    have h1 := (hr.1 k hk).2
    have h2 := (hr2.1 k hk2).2
    omega
end Go.Proofs.Ytchmaojmknfbpaa.S
namespace Go.Proofs.Ytchmaojmknfbpaa.S
open Go Go.RowKit Go.Proofs.YtchmaojmknfbpaaW.PrintWords Go.Proofs.YtchmaojmknfbpaaW.PrintLast Go.Proofs.YtchmaojmknfbpaaW.PrintMore Go.Proofs.Ytchmaojmknfbpaa.Base
/-- Where a walk stands still: its goal under a word. -/
def Hold (p : Prop) : Prop := p
theorem hold_here {p : Prop} (h : Hold p) : p := h
theorem hold_go {p : Prop} (h : p) : Hold p := h
/-- A row of bytes of the call's own, between lo and hi. -/
theorem B_of_R {e base base0 : Nat} {ok : Nat → Prop} {w : World} {v : Value} {xs : List Int} (h : Kd.R (Kd.int .u8) e w base0 ok v xs) (hb : base ≤ base0) :
    ∃ A c, v = .slice A xs.length c ∧ Kd.R (Kd.int .u8) e w base (In base0 w.heap.size) (.slice A xs.length c) xs := by
  obtain ⟨A, c, rfl⟩ := Kd.R_slice h
  exact ⟨A, c, rfl, Kd.R_lower (Kd.R_mono (Kd.R_bound h) (fun k hk => ⟨hk.2.1, hk.2.2.1⟩)) hb⟩
theorem B_kept {e base lo hi a b : Nat} {w w1 : World} {v : Value} {xs : List Int} (h : Kd.R (Kd.int .u8) e w base (In lo hi) v xs) (hk : Kept w w1 (In a b)) (hd : hi ≤ a ∨ b ≤ lo) : Kd.R (Kd.int .u8) e w1 base (In lo hi) v xs := Kd.R_kept h hk (In_apart hd)
theorem blk_keptIn {g a b : Nat} {w w1 : World} {o : Obj} (h : w.heap[g]? = some o) (hk : Kept w w1 (In a b)) (hd : g < a ∨ b ≤ g) : w1.heap[g]? = some o := blk_kept h hk (fun h2 => by unfold In at h2; omega)
theorem row_store {P : Program} {ops : Array Oper} {rest : List Oper} {o : Oper} {a : Act} {w w0 : World} {B : Nat} {Q : Exit → Act → World → Prop} (hgd : o.guard = none) (ty : TypeId) (x y : Operand) (ho : o.op = .store ty x y)
    (g : Nat) (cells : Array Value) (hx : a.eval x = .pointer (some ⟨g, 0, none⟩)) (hy : a.eval y = .agg cells)
    (t : TypeId) (old : Array Value) (hg : w.heap[g]? = some (.cells old t (0, 0))) (hi : (P.info? ty).map (·.size) = some cells.size)
    (hold : old.size = cells.size) (h1 : cells.all (·.oneCell') = true) (hd : o.dst = none) (hb : Below B w0 w) (hB : B ≤ g)
    (h : ∀ w1 : World, w1.heap[g]? = some (.cells cells t (0, 0)) → Kept w w1 (In g (g + 1)) → Below B w0 w1 → wpList P ops Q rest a w1) : wpList P ops Q (o :: rest) a w := by
  refine wpList_store_row hgd ty x y ho g cells hx hy t old hg hi hold h1 ?_
  rw [hd]
  exact h _ (setRow_heap w g old cells t (0, 0) hg) ⟨by simp [World.setRow], fun k hk hn => setRow_other w g k cells (fun e => hn (by subst e; exact ⟨Nat.le_refl _, Nat.lt_succ_self _⟩))⟩ (below_setRow hb hB cells)
end Go.Proofs.Ytchmaojmknfbpaa.S

/- What the laws' marks make of rows of rows. No condition beyond those in the statements. -/
set_option linter.unusedVariables false
set_option linter.unusedSimpArgs false
namespace Go.Proofs.Ytchmaojmknfbpaa.S
open Go Go.RowKit Go.Proofs.YtchmaojmknfbpaaW.PrintWords Go.Proofs.YtchmaojmknfbpaaW.PrintLast Go.Proofs.YtchmaojmknfbpaaW.PrintMore Go.Proofs.Ytchmaojmknfbpaa.Base

/-! The marks. -/
def markAll (a : Int) : List (List Int) → List (List Int)
  | [] => []
  | l :: r => marked a l.length :: markAll (a + (l.length : Int)) r
theorem markAll_length : ∀ (ls : List (List Int)) (a : Int), (markAll a ls).length = ls.length
  | [], _ => rfl
  | l :: r, a => by simp [markAll, markAll_length r]
/-- Where row i's marks begin. -/
def offs (ls : List (List Int)) (i : Nat) : Nat := (ls.take i).flatten.length
theorem offs_step (ls : List (List Int)) (i : Nat) (h : i < ls.length) : offs ls (i + 1) = offs ls i + ls[i].length := by
  unfold offs
  rw [List.take_succ_eq_append_getElem h, List.flatten_append, List.length_append]
  simp
theorem offs_le (ls : List (List Int)) (i : Nat) : offs ls i ≤ ls.flatten.length := by
  unfold offs
  have h := congrArg List.length (congrArg List.flatten (List.take_append_drop i ls))
  rw [List.flatten_append, List.length_append] at h
  omega
theorem markAll_get : ∀ (ls : List (List Int)) (a : Int) (i : Nat) (h : i < ls.length), (markAll a ls)[i]? = some (marked (a + (offs ls i : Int)) ls[i].length)
  | [], _, i, h => by simp at h
  | l :: r, a, 0, h => by simp [markAll, offs]
  | l :: r, a, i + 1, h => by
    have h2 : i < r.length := by simpa using h
    have e : offs (l :: r) (i + 1) = l.length + offs r i := by simp [offs]
    show (markAll (a + (l.length : Int)) r)[i]? = _
    rw [markAll_get r (a + (l.length : Int)) i h2, e]
    simp only [List.getElem_cons_succ]
    rw [show a + (l.length : Int) + (offs r i : Int) = a + ((l.length + offs r i : Nat) : Int) by omega]
def midSS (a : Int) (ls : List (List Int)) (i : Nat) : List (List Int) := (markAll a ls).take i ++ ls.drop i
theorem midSS_length (a : Int) (ls : List (List Int)) (i : Nat) (h : i ≤ ls.length) : (midSS a ls i).length = ls.length := by
  simp [midSS, markAll_length]
  omega
theorem midSS_get (a : Int) (ls : List (List Int)) (i : Nat) (h : i < ls.length) : (midSS a ls i)[i]? = some ls[i] := by
  have hl : ((markAll a ls).take i).length = i := by rw [List.length_take, markAll_length]; omega
  unfold midSS
  rw [List.getElem?_append_right (by omega), hl, Nat.sub_self, List.getElem?_drop]
  simp [h]
theorem midSS_step (a : Int) (ls : List (List Int)) (i : Nat) (h : i < ls.length) : (midSS a ls i).set i (marked (a + (offs ls i : Int)) ls[i].length) = midSS a ls (i + 1) := by
  have hl : ((markAll a ls).take i).length = i := by rw [List.length_take, markAll_length]; omega
  have hg := markAll_get ls a i h
  have hlt : i < (markAll a ls).length := by rw [markAll_length]; exact h
  rw [List.getElem?_eq_getElem hlt] at hg
  have hg := Option.some.inj hg
  unfold midSS
  rw [List.set_append_right _ _ (by omega), hl, Nat.sub_self, List.drop_eq_getElem_cons h, List.set_cons_zero, List.take_succ_eq_append_getElem hlt, hg, List.append_assoc]
  rfl
theorem midSS_all (a : Int) (ls : List (List Int)) : midSS a ls ls.length = markAll a ls := by
  unfold midSS
  rw [List.take_of_length_le (by rw [markAll_length]; exact Nat.le_refl _), List.drop_of_length_le (Nat.le_refl _), List.append_nil]
end Go.Proofs.Ytchmaojmknfbpaa.S

/- What the laws' heldByteSS comes to on rows that are marked; what eqWordsResult comes to. For all that fit. -/
set_option linter.unusedVariables false
namespace Go.Proofs.Ytchmaojmknfbpaa.S
open Go.RowKit Go.Proofs.YtchmaojmknfbpaaW.PrintWords Go.Proofs.YtchmaojmknfbpaaW.PrintLast Go.Proofs.YtchmaojmknfbpaaW.PrintMore Go.Proofs.Ytchmaojmknfbpaa.Base

theorem heldSS_l0 (ls : List (List Int)) (a : Int) (h0 : 0 ≤ a) (hl : ls.length ≤ 1000000000) (h1 : a + (ls.flatten.length : Int) ≤ 4611686018427387904) : ∀ (d i : Nat), i + d = ls.length → Ev (fun k => laws_heldByteSS.l0 k (markAll a ls) (a + (offs ls i : Int)) (i : Int)) (a + (ls.flatten.length : Int)) := by
  intro d
  induction d with
  | zero =>
    intro i h
    obtain rfl : i = ls.length := by omega
    have e1 : offs ls ls.length = ls.flatten.length := by unfold offs; rw [List.take_of_length_le (Nat.le_refl _)]
    rw [e1]
    exact ev_step (fun k => laws_heldByteSS.l0.eq_2 _ _ _ _) (ev_neg (by rw [markAll_length]; omega) (ev_now rfl))
  | succ d ih =>
    intro i h
    have hlt : i < ls.length := by omega
    have ho := offs_step ls i hlt
    have hol := offs_le ls (i + 1)
    have hg := markAll_get ls a i hlt
    have hlm : i < (markAll a ls).length := by rw [markAll_length]; exact hlt
    rw [List.getElem?_eq_getElem hlm] at hg
    refine ev_step (fun k => laws_heldByteSS.l0.eq_2 _ _ _ _) (ev_pos (by rw [markAll_length]; omega) (ev_pos (by omega) ?_))
    rw [rdLL _ i hlm, Option.some.inj hg]
    refine ev_bind (heldByteS_ev ls[i].length (a + (offs ls i : Int)) (by omega) (by omega)) (ev_neg (by omega) ?_)
    rw [w64s (by omega), show a + (offs ls i : Int) + (ls[i].length : Int) = a + (offs ls (i + 1) : Int) by omega]
    exact ih (i + 1) (by omega)
theorem heldSS_ev (ls : List (List Int)) (a : Int) (h0 : 0 ≤ a) (hl : ls.length ≤ 1000000000) (h1 : a + (ls.flatten.length : Int) ≤ 4611686018427387904) : Ev (fun k => laws_heldByteSS.f k (markAll a ls) a) (a + (ls.flatten.length : Int)) := by
  have h := heldSS_l0 ls a h0 hl h1 ls.length 0 (by omega)
  unfold laws_heldByteSS.f
  have e : offs ls 0 = 0 := by simp [offs]
  rw [e] at h
  simpa using h
theorem flat_small {ls : List (List Int)} {n m : Nat} (hl : ls.length ≤ n) (hw : ∀ w ∈ ls, w.length ≤ m) : ls.flatten.length ≤ n * m := by
  have h : ls.flatten.length ≤ ls.length * m := by
    induction ls with
    | nil => simp
    | cons x ls ih =>
      rw [List.flatten_cons, List.length_append, List.length_cons, Nat.succ_mul]
      have h1 := hw x List.mem_cons_self
      have h2 := ih (by simp only [List.length_cons] at hl; omega) (fun w hm => hw w (List.mem_cons_of_mem _ hm))
      omega
  exact Nat.le_trans h (Nat.mul_le_mul_right m hl)
end Go.Proofs.Ytchmaojmknfbpaa.S

/- Steps of regions that draw their order: a box made, a struct stored, a whole array loaded; words that are read. No condition beyond those in the statements. -/
set_option linter.unusedVariables false
set_option linter.unusedSimpArgs false
namespace Go.Proofs.Ytchmaojmknfbpaa.S
open Go Go.RowKit Go.Proofs.YtchmaojmknfbpaaW.PrintWords Go.Proofs.YtchmaojmknfbpaaW.PrintLast Go.Proofs.YtchmaojmknfbpaaW.PrintMore Go.Proofs.Ytchmaojmknfbpaa.Base

theorem AR.lower {base base2 lo hi : Nat} {w : World} {A : Option Addr} {ls : List (List Int)} (h : AR base w lo hi A ls) (hb : base2 ≤ base) : AR base2 w lo hi A ls := by
  refine ⟨h.1, h.2.imp id ?_⟩
  rintro ⟨ad, vs, hA, hg, hr, hin, hap⟩
  exact ⟨ad, vs, hA, hg, fun i hi => ⟨(hr i hi).1, Kd.R_lower (hr i hi).2 hb⟩, hin, hap⟩
end Go.Proofs.Ytchmaojmknfbpaa.S

/- The laws' mark of rows of rows: it writes these rows alone, place by place. No condition beyond those in the statement. -/
set_option linter.unusedVariables false
set_option linter.unusedSimpArgs false
namespace Go.Proofs.Ytchmaojmknfbpaa.S
open Go Go.RowKit Go.Proofs.YtchmaojmknfbpaaW.PrintWords Go.Proofs.YtchmaojmknfbpaaW.PrintLast Go.Proofs.YtchmaojmknfbpaaW.PrintMore Go.Proofs.Ytchmaojmknfbpaa.Base
attribute [local go_sem] max2_int min2_int max_two min_two max_three min_three max_four min_four

end Go.Proofs.Ytchmaojmknfbpaa.S

/- Two slices of rows of bytes of the call's own, no row of which shares memory with another; the laws' mark of one of them. No condition beyond those in the statements. -/
set_option linter.unusedVariables false
set_option linter.unusedSimpArgs false
namespace Go.Proofs.Ytchmaojmknfbpaa.S
open Go Go.RowKit Go.Proofs.YtchmaojmknfbpaaW.PrintWords Go.Proofs.YtchmaojmknfbpaaW.PrintLast Go.Proofs.YtchmaojmknfbpaaW.PrintMore Go.Proofs.Ytchmaojmknfbpaa.Base
attribute [local go_sem] max2_int min2_int max_two min_two max_three min_three max_four min_four

/-- Rows of bytes: their own memory in ok; the row of rows in none of bad. -/
def AK (base : Nat) (w : World) (lo hi : Nat) (ok bad : Nat → Prop) (A : Option Addr) (ls : List (List Int)) : Prop :=
  ls.length ≤ 9223372036854775807 ∧ (ls = [] ∨ ∃ (ad : Addr) (vs : Nat → Value), A = some ad ∧ ((lo ≤ ad.block ∧ ad.block < hi) ∧ ¬ bad ad.block) ∧
    (∀ i, (h : i < ls.length) → w.cell? (ad.add i) = some (vs i) ∧ Kd.R (Kd.int .u8) 5 w base (fun k => some k = (vs i).ownBlock) (vs i) ls[i]) ∧
    (∀ i k, i < ls.length → (vs i).ownBlock = some k → ok k) ∧
    (∀ i j k, i < ls.length → j < ls.length → i ≠ j → (vs i).ownBlock = some k → (vs j).ownBlock ≠ some k))
section
variable {base lo hi a b : Nat} {ok bad q : Nat → Prop} {w w1 : World} {A A1 A2 : Option Addr} {ls l1 l2 : List (List Int)}
theorem AK.below (h : AK base w lo hi ok bad A ls) (hb : Below w.heap.size w w1) : AK base w1 lo hi ok bad A ls := by
  refine ⟨h.1, h.2.imp id ?_⟩
  rintro ⟨ad, vs, hA, hg, hr, hin, hap⟩
  exact ⟨ad, vs, hA, hg, fun i hi => ⟨(hb.cell (World.block_lt_of_cell? w _ (hr i hi).1)).trans (hr i hi).1, Kd.R_below (hr i hi).2 hb⟩, hin, hap⟩
theorem AK.kept (h : AK base w lo hi ok bad A ls) (hk : Kept w w1 q) (h1 : ∀ k, ok k → ¬ q k) (h2 : ∀ k, lo ≤ k → k < hi → q k → bad k) : AK base w1 lo hi ok bad A ls := by
  refine ⟨h.1, h.2.imp id ?_⟩
  rintro ⟨ad, vs, hA, hg, hr, hin, hap⟩
  exact ⟨ad, vs, hA, hg, fun i hi => ⟨cell_kept (hr i hi).1 hk (by rw [add_block]; exact fun hq => hg.2 (h2 _ hg.1.1 hg.1.2 hq)), Kd.R_kept (hr i hi).2 hk (fun k hk2 => h1 k (hin i k hi hk2.symm))⟩, hin, hap⟩
theorem AK.ar (h : AK base w lo hi ok bad A ls) (h1 : ∀ k, ok k → (lo ≤ k ∧ k < hi) ∧ bad k) : AR base w lo hi A ls := by
  refine ⟨h.1, h.2.imp id ?_⟩
  rintro ⟨ad, vs, hA, hg, hr, hin, hap⟩
  exact ⟨ad, vs, hA, hg.1, hr, fun i k hi hk => ⟨(h1 k (hin i k hi hk)).1, fun e => hg.2 (e ▸ (h1 k (hin i k hi hk)).2)⟩, hap⟩
/-- Two slices of rows: no row of the one is one of the other, and no row lies where one of the slices does. -/
def SG (base : Nat) (w : World) (lo hi : Nat) (A1 : Option Addr) (l1 : List (List Int)) (A2 : Option Addr) (l2 : List (List Int)) : Prop :=
  ∃ ok1 ok2 : Nat → Prop, (∀ k, ok1 k → (lo ≤ k ∧ k < hi) ∧ ¬ ok2 k) ∧ (∀ k, ok2 k → (lo ≤ k ∧ k < hi) ∧ ¬ ok1 k) ∧ AK base w lo hi ok1 (fun k => ok1 k ∨ ok2 k) A1 l1 ∧ AK base w lo hi ok2 (fun k => ok1 k ∨ ok2 k) A2 l2
theorem SG.below (h : SG base w lo hi A1 l1 A2 l2) (hb : Below w.heap.size w w1) : SG base w1 lo hi A1 l1 A2 l2 := by
  obtain ⟨o1, o2, h1, h2, h3, h4⟩ := h
  exact ⟨o1, o2, h1, h2, h3.below hb, h4.below hb⟩
theorem SG.kept (h : SG base w lo hi A1 l1 A2 l2) (hk : Kept w w1 (In a b)) (hd : hi ≤ a ∨ b ≤ lo) : SG base w1 lo hi A1 l1 A2 l2 := by
  obtain ⟨o1, o2, h1, h2, h3, h4⟩ := h
  have e : ∀ k, lo ≤ k → k < hi → In a b k → o1 k ∨ o2 k := fun k a1 a2 a3 => absurd a3 (In_apart hd k ⟨a1, a2⟩)
  exact ⟨o1, o2, h1, h2, h3.kept hk (fun k ho => In_apart hd k (h1 k ho).1) e, h4.kept hk (fun k ho => In_apart hd k (h2 k ho).1) e⟩
theorem SG.ar1 (h : SG base w lo hi A1 l1 A2 l2) : AR base w lo hi A1 l1 := by
  obtain ⟨o1, o2, h1, h2, h3, h4⟩ := h
  exact h3.ar (fun k hk => ⟨(h1 k hk).1, .inl hk⟩)
theorem SG.ar2 (h : SG base w lo hi A1 l1 A2 l2) : AR base w lo hi A2 l2 := by
  obtain ⟨o1, o2, h1, h2, h3, h4⟩ := h
  exact h4.ar (fun k hk => ⟨(h2 k hk).1, .inr hk⟩)
/-- Slices that were made apart. -/
theorem SG.of_AR {a1 b1 a2 b2 : Nat} (h1 : AR base w a1 b1 A1 l1) (h2 : AR base w a2 b2 A2 l2) (hd : b1 ≤ a2 ∨ b2 ≤ a1) (hl1 : lo ≤ a1) (hl2 : lo ≤ a2) (hh1 : b1 ≤ hi) (hh2 : b2 ≤ hi) : SG base w lo hi A1 l1 A2 l2 := by
  refine ⟨fun k => (a1 ≤ k ∧ k < b1) ∧ A1.map (·.block) ≠ some k, fun k => (a2 ≤ k ∧ k < b2) ∧ A2.map (·.block) ≠ some k, fun k hk => ⟨by have := hk.1; omega, fun h => by have := hk.1; have := h.1; omega⟩, fun k hk => ⟨by have := hk.1; omega, fun h => by have := hk.1; have := h.1; omega⟩, ⟨h1.1, h1.2.imp id ?_⟩, ⟨h2.1, h2.2.imp id ?_⟩⟩
  · rintro ⟨ad, vs, rfl, hg, hr, hin, hap⟩
    refine ⟨ad, vs, rfl, ⟨by omega, fun h => ?_⟩, hr, fun i k hi hk => ⟨(hin i k hi hk).1, fun e => (hin i k hi hk).2 (Option.some.inj e).symm⟩, hap⟩
    rcases h with h | h
    · exact h.2 rfl
    · have := h.1; omega
  · rintro ⟨ad, vs, rfl, hg, hr, hin, hap⟩
    refine ⟨ad, vs, rfl, ⟨by omega, fun h => ?_⟩, hr, fun i k hi hk => ⟨(hin i k hi hk).1, fun e => (hin i k hi hk).2 (Option.some.inj e).symm⟩, hap⟩
    rcases h with h | h
    · have := h.1; omega
    · exact h.2 rfl
theorem add_add (ad : Addr) (m i : Nat) : (ad.add m).add i = ad.add (m + i) := by
  unfold Addr.add
  by_cases h1 : m = 0 <;> by_cases h2 : i = 0 <;> simp [h1, h2, Nat.add_assoc]
theorem AK.lower {b2 : Nat} (h : AK base w lo hi ok bad A ls) (hb : b2 ≤ base) : AK b2 w lo hi ok bad A ls := by
  refine ⟨h.1, h.2.imp id ?_⟩
  rintro ⟨ad, vs, hA, hg, hr, hin, hap⟩
  exact ⟨ad, vs, hA, hg, fun i hi => ⟨(hr i hi).1, Kd.R_lower (hr i hi).2 hb⟩, hin, hap⟩
theorem SG.lower {b2 : Nat} (h : SG base w lo hi A1 l1 A2 l2) (hb : b2 ≤ base) : SG b2 w lo hi A1 l1 A2 l2 := by
  obtain ⟨o1, o2, h1, h2, h3, h4⟩ := h
  exact ⟨o1, o2, h1, h2, h3.lower hb, h4.lower hb⟩
end
theorem AR_of_S_hi {hi : Nat} {e base base0 : Nat} {ok : Nat → Prop} {w : World} {v : Value} {ls : List (List Int)} (h : Kd.S (Kd.slice 5 (Kd.int .u8)) e w base0 ok v ls) (hb : base ≤ base0) (hlt : ∀ k, ok k → k < hi) :
    ∃ A c, v = .slice A ls.length c ∧ ls.length ≤ c ∧ AR base w base0 (min hi w.heap.size) A ls := by
  have hR := Kd.S_R h
  obtain ⟨A, c, rfl⟩ := Kd.R_slice hR
  obtain ⟨_, hc, hC⟩ := Kd.R_reads' hR
  refine ⟨A, c, rfl, hc, hC.2.1, ?_⟩
  by_cases hz : ls = []
  · exact .inl hz
  have hp : 0 < ls.length := by cases ls with
    | nil => exact absurd rfl hz
    | cons x l => simp
  obtain ⟨f, hf⟩ := h
  obtain ⟨g, cap, hv, hg0, hg1, cells, hcells⟩ := Kd.R_form hR hp
  injection hv with hv1 hv2 hv3
  subst hv1
  have each : ∀ i, (hi : i < ls.length) → ∃ u, w.cell? ⟨g, i, none⟩ = some u ∧ Kd.R (Kd.int .u8) 5 w base0 (fun k => (ok k ∧ k ≠ g) ∧ f k = i) u ls[i] := fun i hi => by
    obtain ⟨cs, hcl, hM, hcc, _⟩ := Kd.R_elem (d := Kd.tag f (Kd.slice 5 (Kd.int .u8))) hf ([], 0) (i : Int) (by omega) (by omega)
    have e1 : ls.zipIdx.getD (i : Int).toNat ([], 0) = (ls[i], i) := by
      rw [Int.toNat_natCast, List.getD_eq_getElem?_getD, Kd.zip_at (List.getElem?_eq_getElem hi)]
      rfl
    rw [e1] at hM
    obtain ⟨u, rfl, hu⟩ := hM
    refine ⟨u, ?_, hu⟩
    have h1 := hcc 0 u rfl
    rw [Int.toNat_natCast] at h1
    have h2 : w.cell? ⟨g, i * 1 + 0, none⟩ = some u := h1
    rwa [Nat.mul_one, Nat.add_zero] at h2
  refine .inr ⟨⟨g, 0, none⟩, fun i => (w.cell? ⟨g, i, none⟩).getD (.bool false), rfl, ⟨hg0, Nat.lt_min.mpr ⟨hlt g (hR.1 g rfl), hg1⟩⟩, fun i hi => ?_, fun i k hi hk => ?_, fun i j k hi hj hij hk hk2 => ?_⟩
  · obtain ⟨u, hu, hr⟩ := each i hi
    rw [add_plain]
    simp only [hu, Option.getD_some]
    exact ⟨trivial, Kd.R_lower (Kd.R_tight rfl hr) hb⟩
  · obtain ⟨u, hu, hr⟩ := each i hi
    simp only [hu, Option.getD_some] at hk
    have hq := (Kd.R_bound hr).1 k hk
    have hq2 := hlt k hq.1.1.1
    have hq3 := hq.2.2.1
    exact ⟨⟨hq.2.1, Nat.lt_min.mpr ⟨hq2, hq3⟩⟩, hq.1.1.2⟩
  · obtain ⟨u, hu, hr⟩ := each i hi
    obtain ⟨u2, hu2, hr2⟩ := each j hj
    simp only [hu, Option.getD_some] at hk
    simp only [hu2, Option.getD_some] at hk2
    have h1 := (hr.1 k hk).2
    have h2 := (hr2.1 k hk2).2
    omega
theorem SG_of_S {e m base base2 : Nat} {ok1 ok2 : Nat → Prop} {w : World} {v1 v2 : Value} {l1 l2 : List (List Int)} (h1 : Kd.S (Kd.slice 5 (Kd.int .u8)) e w m ok1 v1 l1) (h2 : Kd.S (Kd.slice 5 (Kd.int .u8)) e w base ok2 v2 l2) (hm : base ≤ m) (hlt : ∀ k, ok2 k → k < m) (hb : base2 ≤ base) :
    ∃ A1 c1 A2 c2, v1 = .slice A1 l1.length c1 ∧ v2 = .slice A2 l2.length c2 ∧ l1.length ≤ c1 ∧ l2.length ≤ c2 ∧ SG base2 w base w.heap.size A1 l1 A2 l2 := by
  obtain ⟨A1, c1, e1, g1, a1⟩ := AR_of_S h1 (Nat.le_trans hb hm)
  obtain ⟨A2, c2, e2, g2, a2⟩ := AR_of_S_hi h2 hb hlt
  exact ⟨A1, c1, A2, c2, e1, e2, g1, g2, SG.of_AR a1 a2 (.inr (Nat.min_le_left _ _)) hm (Nat.le_refl _) (Nat.le_refl _) (Nat.min_le_right _ _)⟩
theorem AK.put {base : Nat} {w w1 : World} {ad : Addr} {vs : Nat → Value} {ls : List (List Int)} {i : Nat} {l2 : List Int}
    (hr : ∀ i, (h : i < ls.length) → w.cell? (ad.add i) = some (vs i) ∧ Kd.R (Kd.int .u8) 5 w base (fun k => some k = (vs i).ownBlock) (vs i) ls[i])
    (hin : ∀ i k, i < ls.length → (vs i).ownBlock = some k → k ≠ ad.block)
    (hap : ∀ i j k, i < ls.length → j < ls.length → i ≠ j → (vs i).ownBlock = some k → (vs j).ownBlock ≠ some k)
    (hi_ : i < ls.length) (h2 : Kd.R (Kd.int .u8) 5 w1 base (fun k => some k = (vs i).ownBlock) (vs i) l2) (hk : Kept w w1 (fun k => some k = (vs i).ownBlock)) :
    (∀ j, (h : j < (ls.set i l2).length) → w1.cell? (ad.add j) = some (vs j) ∧ Kd.R (Kd.int .u8) 5 w1 base (fun k => some k = (vs j).ownBlock) (vs j) (ls.set i l2)[j]) := by
  intro j hj
  have hj2 : j < ls.length := by simpa using hj
  obtain ⟨hc, hR⟩ := hr j hj2
  refine ⟨cell_kept hc hk (by rw [add_block]; exact fun e => hin i _ hi_ e.symm rfl), ?_⟩
  rw [List.getElem_set]
  split
  · rename_i e
    subst e
    exact h2
  · rename_i e
    exact Kd.R_kept hR hk (fun k hk1 hk2 => hap i j k hi_ hj2 e hk2.symm hk1.symm)

set_option maxHeartbeats 8000000 in
set_option maxRecDepth 100000 in
theorem markAK_calls (ls : List (List Int)) (a : Int) (h0 : 0 ≤ a) (h1 : a + (ls.flatten.length : Int) ≤ 4611686018427387904) (w0 w : World) (lo hi : Nat) (ok bad : Nat → Prop) (hob : ∀ k, ok k → bad k) (A : Option Addr) (c : Nat) (hB : Below w0.heap.size w0 w) (hA : AK w0.heap.size w lo hi ok bad A ls) (hc : ls.length ≤ c) (hl : ls.length ≤ 1000000000) :
    Calls Try.prog 49 #[.slice A ls.length c, .int .i64 a] w fun e w' => e = .returned (.int .i64 (a + (ls.flatten.length : Int))) ∧ AK w0.heap.size w' lo hi ok bad A (markAll a ls) ∧ Below w0.heap.size w0 w' ∧ Kept w w' ok := by
  rcases hA with ⟨hlen, rfl | ⟨ad, vs, rfl, hg, hr, hin, hap⟩⟩
  · have HB := Aside0.mk hB
    have e0 : a + (([] : List (List Int)).flatten.length : Int) = a := by simp
    rw [e0]
    clear hB
    go_enter Try.func49, Try.ntmps49
    go_wp2
    go_loopg [1, 5] 0 (fun kq v1 v5 w' => v1 = .int .i64 a ∧ v5 = .int .i64 0 ∧ w' = w)
    case atStart => exact ⟨rfl, rfl, rfl⟩
    case round =>
      obtain ⟨rfl, rfl, rfl⟩ := hrel
      go_wp2
      go_ret
      exact ⟨rfl, (⟨by simp [markAll], .inl rfl⟩ : AK _ _ _ _ _ _ _ _), HB.out, Kept.refl _ _⟩
  · have HI := Aside0.mk (show ∀ i k, i < ls.length → (vs i).ownBlock = some k → ok k ∧ k ≠ ad.block from fun i k hi hk => ⟨hin i k hi hk, fun e => hg.2 (e ▸ hob k (hin i k hi hk))⟩)
    have HP := Aside0.mk hap
    have HG := Aside0.mk hg
    have HN := Aside0.mk hlen
    have HL := Aside0.mk hl
    have H0 := Aside0.mk h0
    have H1 := Aside0.mk h1
    have HB := Aside0.mk hB
    have HR := Aside0.mk (show ∀ i, (h : i < (midSS a ls 0).length) → w.cell? (ad.add i) = some (vs i) ∧ Kd.R (Kd.int .u8) 5 w w0.heap.size (fun k => some k = (vs i).ownBlock) (vs i) (midSS a ls 0)[i] from hr)
    have HK := Aside0.mk (Kept.refl w ok)
    clear hin hap hg hlen hl h0 h1 hB hr hc
    go_enter Try.func49, Try.ntmps49
    go_wp2
    go_loopg [1, 5] ls.length (fun kq v1 v5 w' => ∃ i : Nat, v5 = .int .i64 (i : Int) ∧ v1 = .int .i64 (a + (offs ls i : Int)) ∧ Aside0 (i + kq = ls.length) ∧ Aside0 (∀ j, (h : j < (midSS a ls i).length) → w'.cell? (ad.add j) = some (vs j) ∧ Kd.R (Kd.int .u8) 5 w' w0.heap.size (fun k => some k = (vs j).ownBlock) (vs j) (midSS a ls i)[j]) ∧ Aside0 (Below w0.heap.size w0 w') ∧ Aside0 (Kept w w' ok))
    case atStart => exact ⟨0, rfl, by simp [offs], ⟨by omega⟩, HR, HB, HK⟩
    case round =>
      clear HR HB HK
      obtain ⟨i, rfl, rfl, HJ, HR, HB, HK⟩ := hrel
      cases gk with
      | zero =>
        have e := HJ.out
        obtain rfl : i = ls.length := by omega
        have e1 : offs ls ls.length = ls.flatten.length := by unfold offs; rw [List.take_of_length_le (Nat.le_refl _)]
        rw [e1]
        have HA := Aside0.mk (show AK w0.heap.size wr lo hi ok bad (some ad) (markAll a ls) from ⟨by rw [markAll_length]; exact HN.out, .inr ⟨ad, vs, rfl, HG.out, fun j hj => by
          have := HR.out j (by rw [midSS_all]; exact hj)
          simp only [midSS_all] at this
          exact this, fun j k hj hk => (HI.out j k (by rw [markAll_length] at hj; exact hj) hk).1, fun j j2 k hj hj2 hne hk => HP.out j j2 k (by rw [markAll_length] at hj; exact hj) (by rw [markAll_length] at hj2; exact hj2) hne hk⟩⟩)
        have c1_ : decide ((ls.length : Int) < (ls.length : Int)) = false := decide_eq_false (by omega)
        clear e HR
        go_wp2
        go_ret
        exact ⟨rfl, HA.out, HB.out, HK.out⟩
      | succ k1 =>
        have e := HJ.out
        have hlt : i < ls.length := by omega
        have hll := HL.out
        have c1_ : decide ((i : Int) < (ls.length : Int)) = true := decide_eq_true (by omega)
        have p0 : (0 ≤ (i : Int)) = True := eq_true (by omega)
        have p1 : ((i : Int) < (ls.length : Int)) = True := eq_true (by omega)
        have hml := midSS_length a ls i (by omega)
        obtain ⟨hx, hRi⟩ := HR.out i (by omega)
        have hgi := midSS_get a ls i hlt
        rw [List.getElem?_eq_getElem (show i < (midSS a ls i).length by omega)] at hgi
        rw [Option.some.inj hgi] at hRi
        have ho := offs_step ls i hlt
        have hst := midSS_step a ls i hlt
        obtain ⟨row, hrow⟩ : ∃ r, r = ls[i] := ⟨_, rfl⟩
        rw [← hrow] at hRi ho hst
        have hol := offs_le ls (i + 1)
        have H0' := H0.out
        have H1' := H1.out
        obtain ⟨km, hkm⟩ := (markByteS_ev row (a + (offs ls i : Int)) (by omega) (by omega)).rounds
        have HM := Aside0.mk hkm
        have HRi := Aside0.mk hRi
        have HO := Aside0.mk (show a + (offs ls i : Int) + (row.length : Int) = a + (offs ls (i + 1) : Int) by omega)
        have HS := Aside0.mk hst
        have HML := Aside0.mk hml
        have HLT := Aside0.mk hlt
        clear hkm hRi e hll hml hgi ho hol H0' H1' hst hrow hlt
        go_wp2_with (first | (go_at_call 12; refine (laws_markByteS.calls km (fun k => some k = (vs i).ownBlock) (vs i) row _ _ _ w0 _ HB.out HRi.out HM.out).mono ?_; rintro e w1 ⟨rfl, hR1, hb1, hk1⟩; have HR1 := Aside0.mk hR1; have HB1 := Aside0.mk hb1; have HK1 := Aside0.mk hk1; clear hR1 hb1 hk1))
        rw [HO.out]
        have HK2 := Aside0.mk (show Kept w w1 ok from HK.out.then_ HK1.out (fun k hk => .inl (HI.out i k HLT.out hk.symm).1))
        have HR2 := Aside0.mk (AK.put HR.out (fun j k hj hk => (HI.out j k (by rw [← HML.out]; exact hj) hk).2) (fun j j2 k hj hj2 hne hk => HP.out j j2 k (by rw [← HML.out]; exact hj) (by rw [← HML.out]; exact hj2) hne hk) (by rw [HML.out]; exact HLT.out) (Kd.R_tight rfl HR1.out) HK1.out)
        have HR3 := Aside0.mk (show ∀ j, (h : j < (midSS a ls (i + 1)).length) → w1.cell? (ad.add j) = some (vs j) ∧ Kd.R (Kd.int .u8) 5 w1 w0.heap.size (fun k => some k = (vs j).ownBlock) (vs j) (midSS a ls (i + 1))[j] from by
          have h := HR2.out
          simp only [HS.out] at h
          exact h)
        clear hx HR HR1 HR2 HB HK HK1 HRi
        go_roundg k1
        case measure => have := HJ.out; omega
        case rel => exact ⟨i + 1, by first | rfl | (rw [w64s (by have := HJ.out; have := HL.out; omega)]), rfl, ⟨by have := HJ.out; omega⟩, HR3, HB1, HK2⟩

/-- The mark of a signature's parts, and of its path behind them. -/
theorem markSG1_calls (l1 l2 : List (List Int)) (a : Int) (h0 : 0 ≤ a) (n : Nat) (hn : l1.flatten.length = n) (h1 : a + (n : Int) ≤ 4611686018427387904) (w0 w : World) (lo hi : Nat) (A1 A2 : Option Addr) (c : Nat) (hB : Below w0.heap.size w0 w) (hA : SG w0.heap.size w lo hi A1 l1 A2 l2) (hc : l1.length ≤ c) (hl : l1.length ≤ 1000000000) :
    Calls Try.prog 49 #[.slice A1 l1.length c, .int .i64 a] w fun e w' => e = .returned (.int .i64 (a + (n : Int))) ∧ SG w0.heap.size w' lo hi A1 (markAll a l1) A2 l2 ∧ Below w0.heap.size w0 w' ∧ Kept w w' (In lo hi) := by
  subst hn
  obtain ⟨o1, o2, g1, g2, g3, g4⟩ := hA
  refine (markAK_calls l1 a h0 h1 w0 w lo hi o1 _ (fun k hk => .inl hk) A1 c hB g3 hc hl).mono fun e w' h => ?_
  obtain ⟨rfl, ha, hb, hk⟩ := h
  exact ⟨rfl, ⟨o1, o2, g1, g2, ha, g4.kept hk (fun k ho => (g2 k ho).2) (fun k _ _ hq => .inl hq)⟩, hb, hk.mono (fun k ho => (g1 k ho).1)⟩
theorem markSG2_calls (l1 l2 : List (List Int)) (a : Int) (h0 : 0 ≤ a) (n : Nat) (hn : l2.flatten.length = n) (h1 : a + (n : Int) ≤ 4611686018427387904) (w0 w : World) (lo hi : Nat) (A1 A2 : Option Addr) (c : Nat) (hB : Below w0.heap.size w0 w) (hA : SG w0.heap.size w lo hi A1 l1 A2 l2) (hc : l2.length ≤ c) (hl : l2.length ≤ 1000000000) :
    Calls Try.prog 49 #[.slice A2 l2.length c, .int .i64 a] w fun e w' => e = .returned (.int .i64 (a + (n : Int))) ∧ SG w0.heap.size w' lo hi A1 l1 A2 (markAll a l2) ∧ Below w0.heap.size w0 w' ∧ Kept w w' (In lo hi) := by
  subst hn
  obtain ⟨o1, o2, g1, g2, g3, g4⟩ := hA
  refine (markAK_calls l2 a h0 h1 w0 w lo hi o2 _ (fun k hk => .inr hk) A2 c hB g4 hc hl).mono fun e w' h => ?_
  obtain ⟨rfl, ha, hb, hk⟩ := h
  exact ⟨rfl, ⟨o1, o2, g1, g2, g3.kept hk (fun k ho => (g1 k ho).2) (fun k _ _ hq => .inr hq), ha⟩, hb, hk.mono (fun k ho => (g2 k ho).1)⟩

end Go.Proofs.Ytchmaojmknfbpaa.S

/- The laws' marks of a signature; the look at a SignResult that is marked. No condition beyond those in the statements. -/
set_option linter.unusedVariables false
set_option linter.unusedSimpArgs false
namespace Go.Proofs.Ytchmaojmknfbpaa.S
open Go Go.RowKit Go.Proofs.YtchmaojmknfbpaaW.PrintWords Go.Proofs.YtchmaojmknfbpaaW.PrintLast Go.Proofs.YtchmaojmknfbpaaW.PrintMore Go.Proofs.Ytchmaojmknfbpaa.Base
attribute [local go_sem] max2_int min2_int max_two min_two max_three min_three max_four min_four
set_option maxHeartbeats 80000000 in
set_option maxRecDepth 100000 in
theorem markProofG_calls (r3 : Int) (r4 : Int) (l1 l2 : List (List Int)) (a : Int) (h0 : 0 ≤ a) (n2 : Nat) (hn2 : l2.flatten.length = n2) (h1 : a + (n2 : Int) ≤ 4611686018427387904) (w0 w : World) (lo hi : Nat) (A1 A2 : Option Addr) (c2 : Nat) (hB : Below w0.heap.size w0 w) (hA : SG w0.heap.size w lo hi A1 l1 A2 l2) (hc2 : l2.length ≤ c2) (hl2 : l2.length ≤ 1000000000) (hh : hi ≤ w.heap.size) :
    Calls Try.prog 50 #[.agg #[.int .i64 r3, .int .i64 r4, .slice A2 l2.length c2], .int .i64 a] w fun e w' => e = .returned (.int .i64 (a + (n2 : Int))) ∧ SG w0.heap.size w' lo hi A1 l1 A2 (markAll a l2) ∧ Below w0.heap.size w0 w' ∧ Kept w w' (In lo hi) := by
  have hu1_ := Try.underlying29
  have hu2_ := Try.underlying27
  have hu3_ := Try.underlying25
  have HA1 := Aside0.mk hA
  have HB1 := Aside0.mk hB
  have H0 := Aside0.mk h0
  have H1 := Aside0.mk h1
  have HH := Aside0.mk hh
  have HC2 := Aside0.mk hc2
  have HL2 := Aside0.mk hl2
  have HN2 := Aside0.mk hn2
  clear hA hB h0 h1 hh hc2 hl2 hn2
  go_enter Try.func50, Try.ntmps50
  go_wp2_with (first | ((with_reducible refine gate_dst (N := 2) rfl ?_); refine hold_here ?_))
  refine hold_go ?_
  refine box_event (N := 2) (cs := #[.int .i64 r3, .int .i64 r4, .slice A2 l2.length c2]) (t := 25) ?hgb rfl ?hrb ?_
  case hgb => rfl
  case hrb => first | (go_simp; done) | (go_simp; rfl)
  intro g hg w1 hbox hb
  have HA2 := Aside0.mk (HA1.out.below hb)
  have HB2 := Aside0.mk (below_then HB1.out HB1.out.size hb)
  have HK2 := Aside0.mk (Kept.of_below hb (In lo hi))
  have HG := Aside0.mk (show hi ≤ g by rw [hg]; exact HH.out)
  have BX := Aside0.mk hbox
  clear HA1 HB1 hb hbox hg
  have hz0 : w1.cell? ⟨g, 0, none⟩ = some (.int .i64 r3) := (blk_cell BX.out 0).trans rfl
  have hf0 := blk_frozen BX.out 0
  have hz1 : w1.cell? ⟨g, 1, none⟩ = some (.int .i64 r4) := (blk_cell BX.out 1).trans rfl
  have hf1 := blk_frozen BX.out 1
  have hz2 : w1.cell? ⟨g, 2, none⟩ = some (.slice A2 l2.length c2) := (blk_cell BX.out 2).trans rfl
  have hf2 := blk_frozen BX.out 2
  go_wp2_with (first | ((with_reducible refine gate_callee (f := 49) rfl ?_); refine hold_here ?_))
  refine hold_go ?_
  refine goesL_ (some 8) rfl rfl Try.func49 (by kernel_rfl) rfl #[.slice A2 l2.length c2, .int .i64 a] rfl (by (try simp only [List.map_toArray, List.map_cons, List.map_nil]); first | done | rfl) ?_
  refine (markSG2_calls l1 l2 a H0.out n2 HN2.out H1.out w0 _ lo hi A1 A2 c2 HB2.out HA2.out HC2.out HL2.out).mono ?_
  rintro e w10 ⟨rfl, ha, hb2, hk⟩
  refine ⟨_, rfl, ?_⟩
  have HA3 := Aside0.mk ha
  have HB3 := Aside0.mk hb2
  have HK3 := Aside0.mk (HK2.out.then_ hk (fun k h => .inl h))
  have BX3 := Aside0.mk (blk_keptIn BX.out hk (.inr HG.out))
  clear hz0 hf0 hz1 hf1 hz2 hf2 ha hb2 hk HA2 HB2 HK2 BX
  have HA2 := HA3
  have HB2 := HB3
  have HK2 := HK3
  have BX := BX3
  clear HA3 HB3 HK3 BX3
  go_wp2
  go_ret
  exact ⟨rfl, HA2.out, HB2.out, HK2.out⟩
set_option maxHeartbeats 80000000 in
set_option maxRecDepth 100000 in
theorem markSignature_calls (r1 : Int) (r3 : Int) (r4 : Int) (l1 l2 : List (List Int)) (a : Int) (h0 : 0 ≤ a) (n1 : Nat) (hn1 : l1.flatten.length = n1) (n2 : Nat) (hn2 : l2.flatten.length = n2) (h1 : a + (n1 : Int) + (n2 : Int) ≤ 4611686018427387904) (w0 w : World) (lo hi : Nat) (A1 : Option Addr) (c1 : Nat) (A2 : Option Addr) (c2 : Nat) (hB : Below w0.heap.size w0 w) (hA : SG w0.heap.size w lo hi A1 l1 A2 l2) (hc1 : l1.length ≤ c1) (hc2 : l2.length ≤ c2) (hl1 : l1.length ≤ 1000000000) (hl2 : l2.length ≤ 1000000000) (hh : hi ≤ w.heap.size) :
    Calls Try.prog 21 #[.agg #[.int .i64 r1, .slice A1 l1.length c1, .int .i64 r3, .int .i64 r4, .slice A2 l2.length c2], .int .i64 a] w fun e w' => e = .returned (.int .i64 (a + (n1 : Int) + (n2 : Int))) ∧ SG w0.heap.size w' lo hi A1 (markAll a l1) A2 (markAll (a + (n1 : Int)) l2) ∧ Below w0.heap.size w0 w' ∧ Kept w w' (In lo hi) := by
  have hu1_ := Try.underlying29
  have hu2_ := Try.underlying27
  have hu3_ := Try.underlying25
  have HA1 := Aside0.mk hA
  have HB1 := Aside0.mk hB
  have H0 := Aside0.mk h0
  have H1 := Aside0.mk h1
  have HH := Aside0.mk hh
  have HC1 := Aside0.mk hc1
  have HL1 := Aside0.mk hl1
  have HN1 := Aside0.mk hn1
  have HC2 := Aside0.mk hc2
  have HL2 := Aside0.mk hl2
  have HN2 := Aside0.mk hn2
  clear hA hB h0 h1 hh hc1 hl1 hn1 hc2 hl2 hn2
  go_enter Try.func21, Try.ntmps21
  go_wp2_with (first | ((with_reducible refine gate_dst (N := 2) rfl ?_); refine hold_here ?_))
  refine hold_go ?_
  refine box_event (N := 2) (cs := #[.int .i64 r1, .slice A1 l1.length c1, .int .i64 r3, .int .i64 r4, .slice A2 l2.length c2]) (t := 27) ?hgb rfl ?hrb ?_
  case hgb => rfl
  case hrb => first | (go_simp; done) | (go_simp; rfl)
  intro g hg w1 hbox hb
  have HA2 := Aside0.mk (HA1.out.below hb)
  have HB2 := Aside0.mk (below_then HB1.out HB1.out.size hb)
  have HK2 := Aside0.mk (Kept.of_below hb (In lo hi))
  have HG := Aside0.mk (show hi ≤ g by rw [hg]; exact HH.out)
  have BX := Aside0.mk hbox
  clear HA1 HB1 hb hbox hg
  have hz0 : w1.cell? ⟨g, 0, none⟩ = some (.int .i64 r1) := (blk_cell BX.out 0).trans rfl
  have hf0 := blk_frozen BX.out 0
  have hz1 : w1.cell? ⟨g, 1, none⟩ = some (.slice A1 l1.length c1) := (blk_cell BX.out 1).trans rfl
  have hf1 := blk_frozen BX.out 1
  have hz2 : w1.cell? ⟨g, 2, none⟩ = some (.int .i64 r3) := (blk_cell BX.out 2).trans rfl
  have hf2 := blk_frozen BX.out 2
  have hz3 : w1.cell? ⟨g, 3, none⟩ = some (.int .i64 r4) := (blk_cell BX.out 3).trans rfl
  have hf3 := blk_frozen BX.out 3
  have hz4 : w1.cell? ⟨g, 4, none⟩ = some (.slice A2 l2.length c2) := (blk_cell BX.out 4).trans rfl
  have hf4 := blk_frozen BX.out 4
  go_wp2_with (first | ((with_reducible refine gate_callee (f := 49) rfl ?_); refine hold_here ?_))
  refine hold_go ?_
  refine goesL_ (some 8) rfl rfl Try.func49 (by kernel_rfl) rfl #[.slice A1 l1.length c1, .int .i64 a] rfl (by (try simp only [List.map_toArray, List.map_cons, List.map_nil]); first | done | rfl) ?_
  refine (markSG1_calls l1 l2 a H0.out n1 HN1.out (by have := H1.out; omega) w0 _ lo hi A1 A2 c1 HB2.out HA2.out HC1.out HL1.out).mono ?_
  rintro e w10 ⟨rfl, ha, hb2, hk⟩
  refine ⟨_, rfl, ?_⟩
  have HA3 := Aside0.mk ha
  have HB3 := Aside0.mk hb2
  have HK3 := Aside0.mk (HK2.out.then_ hk (fun k h => .inl h))
  have BX3 := Aside0.mk (blk_keptIn BX.out hk (.inr HG.out))
  clear hz0 hf0 hz1 hf1 hz2 hf2 hz3 hf3 hz4 hf4 ha hb2 hk HA2 HB2 HK2 BX
  have HA2 := HA3
  have HB2 := HB3
  have HK2 := HK3
  have BX := BX3
  clear HA3 HB3 HK3 BX3
  have hz0 : w10.cell? ⟨g, 0, none⟩ = some (.int .i64 r1) := (blk_cell BX.out 0).trans rfl
  have hf0 := blk_frozen BX.out 0
  have hz1 : w10.cell? ⟨g, 1, none⟩ = some (.slice A1 l1.length c1) := (blk_cell BX.out 1).trans rfl
  have hf1 := blk_frozen BX.out 1
  have hz2 : w10.cell? ⟨g, 2, none⟩ = some (.int .i64 r3) := (blk_cell BX.out 2).trans rfl
  have hf2 := blk_frozen BX.out 2
  have hz3 : w10.cell? ⟨g, 3, none⟩ = some (.int .i64 r4) := (blk_cell BX.out 3).trans rfl
  have hf3 := blk_frozen BX.out 3
  have hz4 : w10.cell? ⟨g, 4, none⟩ = some (.slice A2 l2.length c2) := (blk_cell BX.out 4).trans rfl
  have hf4 := blk_frozen BX.out 4
  go_wp2_with (first | ((with_reducible refine gate_callee (f := 50) rfl ?_); refine hold_here ?_))
  refine hold_go ?_
  refine goesL_ (some 12) rfl rfl Try.func50 (by kernel_rfl) rfl #[.agg #[.int .i64 r3, .int .i64 r4, .slice A2 l2.length c2], .int .i64 (a + (n1 : Int))] rfl (by (try simp only [List.map_toArray, List.map_cons, List.map_nil]); first | done | rfl) ?_
  refine (markProofG_calls r3 r4 (markAll a l1) l2 (a + (n1 : Int)) (by have := H0.out; omega) n2 HN2.out H1.out w0 _ lo hi A1 A2 c2 HB2.out HA2.out HC2.out HL2.out (Nat.le_trans HH.out HK2.out.1)).mono ?_
  rintro e w11 ⟨rfl, ha, hb2, hk⟩
  refine ⟨_, rfl, ?_⟩
  have HA3 := Aside0.mk ha
  have HB3 := Aside0.mk hb2
  have HK3 := Aside0.mk (HK2.out.then_ hk (fun k h => .inl h))
  have BX3 := Aside0.mk (blk_keptIn BX.out hk (.inr HG.out))
  clear hz0 hf0 hz1 hf1 hz2 hf2 hz3 hf3 hz4 hf4 ha hb2 hk HA2 HB2 HK2 BX
  have HA2 := HA3
  have HB2 := HB3
  have HK2 := HK3
  have BX := BX3
  clear HA3 HB3 HK3 BX3
  go_wp2
  go_ret
  exact ⟨rfl, HA2.out, HB2.out, HK2.out⟩
set_option maxHeartbeats 80000000 in
set_option maxRecDepth 100000 in
theorem markSignResult_calls (r0 : Int) (r1 : Int) (r3 : Int) (r4 : Int) (l1 l2 : List (List Int)) (a : Int) (h0 : 0 ≤ a) (n1 : Nat) (hn1 : l1.flatten.length = n1) (n2 : Nat) (hn2 : l2.flatten.length = n2) (h1 : a + (n1 : Int) + (n2 : Int) ≤ 4611686018427387904) (w0 w : World) (lo hi : Nat) (A1 : Option Addr) (c1 : Nat) (A2 : Option Addr) (c2 : Nat) (hB : Below w0.heap.size w0 w) (hA : SG w0.heap.size w lo hi A1 l1 A2 l2) (hc1 : l1.length ≤ c1) (hc2 : l2.length ≤ c2) (hl1 : l1.length ≤ 1000000000) (hl2 : l2.length ≤ 1000000000) (hh : hi ≤ w.heap.size) :
    Calls Try.prog 13 #[.agg #[.int .i64 r0, .int .i64 r1, .slice A1 l1.length c1, .int .i64 r3, .int .i64 r4, .slice A2 l2.length c2], .int .i64 a] w fun e w' => e = .returned (.int .i64 (a + (n1 : Int) + (n2 : Int))) ∧ SG w0.heap.size w' lo hi A1 (markAll a l1) A2 (markAll (a + (n1 : Int)) l2) ∧ Below w0.heap.size w0 w' ∧ Kept w w' (In lo hi) := by
  have hu1_ := Try.underlying29
  have hu2_ := Try.underlying27
  have hu3_ := Try.underlying25
  have HA1 := Aside0.mk hA
  have HB1 := Aside0.mk hB
  have H0 := Aside0.mk h0
  have H1 := Aside0.mk h1
  have HH := Aside0.mk hh
  have HC1 := Aside0.mk hc1
  have HL1 := Aside0.mk hl1
  have HN1 := Aside0.mk hn1
  have HC2 := Aside0.mk hc2
  have HL2 := Aside0.mk hl2
  have HN2 := Aside0.mk hn2
  clear hA hB h0 h1 hh hc1 hl1 hn1 hc2 hl2 hn2
  go_enter Try.func13, Try.ntmps13
  go_wp2_with (first | ((with_reducible refine gate_dst (N := 2) rfl ?_); refine hold_here ?_))
  refine hold_go ?_
  refine box_event (N := 2) (cs := #[.int .i64 r0, .int .i64 r1, .slice A1 l1.length c1, .int .i64 r3, .int .i64 r4, .slice A2 l2.length c2]) (t := 29) ?hgb rfl ?hrb ?_
  case hgb => rfl
  case hrb => first | (go_simp; done) | (go_simp; rfl)
  intro g hg w1 hbox hb
  have HA2 := Aside0.mk (HA1.out.below hb)
  have HB2 := Aside0.mk (below_then HB1.out HB1.out.size hb)
  have HK2 := Aside0.mk (Kept.of_below hb (In lo hi))
  have HG := Aside0.mk (show hi ≤ g by rw [hg]; exact HH.out)
  have BX := Aside0.mk hbox
  clear HA1 HB1 hb hbox hg
  have hz0 : w1.cell? ⟨g, 0, none⟩ = some (.int .i64 r0) := (blk_cell BX.out 0).trans rfl
  have hf0 := blk_frozen BX.out 0
  have hz1 : w1.cell? ⟨g, 1, none⟩ = some (.int .i64 r1) := (blk_cell BX.out 1).trans rfl
  have hf1 := blk_frozen BX.out 1
  have hz2 : w1.cell? ⟨g, 2, none⟩ = some (.slice A1 l1.length c1) := (blk_cell BX.out 2).trans rfl
  have hf2 := blk_frozen BX.out 2
  have hz3 : w1.cell? ⟨g, 3, none⟩ = some (.int .i64 r3) := (blk_cell BX.out 3).trans rfl
  have hf3 := blk_frozen BX.out 3
  have hz4 : w1.cell? ⟨g, 4, none⟩ = some (.int .i64 r4) := (blk_cell BX.out 4).trans rfl
  have hf4 := blk_frozen BX.out 4
  have hz5 : w1.cell? ⟨g, 5, none⟩ = some (.slice A2 l2.length c2) := (blk_cell BX.out 5).trans rfl
  have hf5 := blk_frozen BX.out 5
  go_wp2_with (first | ((with_reducible refine gate_callee (f := 21) rfl ?_); refine hold_here ?_))
  refine hold_go ?_
  refine goesL_ (some 8) rfl rfl Try.func21 (by kernel_rfl) rfl #[.agg #[.int .i64 r1, .slice A1 l1.length c1, .int .i64 r3, .int .i64 r4, .slice A2 l2.length c2], .int .i64 a] rfl (by (try simp only [List.map_toArray, List.map_cons, List.map_nil]); first | done | rfl) ?_
  refine (markSignature_calls r1 r3 r4 l1 l2 a H0.out n1 HN1.out n2 HN2.out H1.out w0 _ lo hi A1 c1 A2 c2 HB2.out HA2.out HC1.out HC2.out HL1.out HL2.out (Nat.le_trans HH.out HK2.out.1)).mono ?_
  rintro e w10 ⟨rfl, ha, hb2, hk⟩
  refine ⟨_, rfl, ?_⟩
  have HA3 := Aside0.mk ha
  have HB3 := Aside0.mk hb2
  have HK3 := Aside0.mk (HK2.out.then_ hk (fun k h => .inl h))
  have BX3 := Aside0.mk (blk_keptIn BX.out hk (.inr HG.out))
  clear hz0 hf0 hz1 hf1 hz2 hf2 hz3 hf3 hz4 hf4 hz5 hf5 ha hb2 hk HA2 HB2 HK2 BX
  have HA2 := HA3
  have HB2 := HB3
  have HK2 := HK3
  have BX := BX3
  clear HA3 HB3 HK3 BX3
  go_wp2
  go_ret
  exact ⟨rfl, HA2.out, HB2.out, HK2.out⟩
theorem heldSignResult_len (k : Nat) (r0 r1 r3 r4 : Int) (A1 : Option Addr) (c1 : Nat) (A2 : Option Addr) (c2 : Nat) (m1 : List (List Int)) (n1 : Nat) (h1 : m1.length = n1) (m2 : List (List Int)) (n2 : Nat) (h2 : m2.length = n2) (a r : Int) (w : World) (hr1 : Kd.C (Kd.slice 5 (Kd.int .u8)) w A1 m1.length m1) (hc1 : n1 ≤ c1) (hr2 : Kd.C (Kd.slice 5 (Kd.int .u8)) w A2 m2.length m2) (hc2 : n2 ≤ c2) (h : laws_heldSignResult.f k r0 r1 m1 r3 r4 m2 a = some r) :
    Calls Try.prog 14 #[.agg #[.int .i64 r0, .int .i64 r1, .slice A1 n1 c1, .int .i64 r3, .int .i64 r4, .slice A2 n2 c2], .int .i64 a] w fun e w' => e = .returned (.int .i64 r) ∧ Below w.heap.size w w' := by
  subst h1 h2
  exact laws_heldSignResult.calls k r0 r1 A1 c1 m1 r3 r4 A2 c2 m2 a r w hr1 hc1 hr2 hc2 h

end Go.Proofs.Ytchmaojmknfbpaa.S

/- The walk over the law FnExactSignMessage: the program and the reference are called, compared, and what they hold is marked. No condition beyond those in the statements. -/
set_option linter.unusedVariables false
set_option linter.unusedSimpArgs false
namespace Go.Proofs.Ytchmaojmknfbpaa.S
open Go Go.RowKit Go.Proofs.YtchmaojmknfbpaaW.PrintWords Go.Proofs.YtchmaojmknfbpaaW.PrintLast Go.Proofs.YtchmaojmknfbpaaW.PrintMore Go.Proofs.Ytchmaojmknfbpaa.Base
attribute [local go_sem] max2_int min2_int max_two min_two max_three min_three max_four min_four

set_option maxHeartbeats 80000000 in
set_option maxRecDepth 100000 in
theorem law_SignMessage (A0 : Option Addr) (c0 : Nat) (l0 : List Int) (a1 : Int) (A2 : Option Addr) (c2 : Nat) (l2 : List Int) (q0 : Int) (q1 : Int) (rs2 : List (List Int)) (q3 : Int) (q4 : Int) (rs5 : List (List Int)) (ml0 : List Int) (ml2 : List Int) (n1 n2 : Nat) (mr1 mr2 : List (List Int)) (w : World) (hr0 : Kd.C (Kd.int .u8) w A0 l0.length l0) (hc0 : l0.length ≤ c0) (hr2 : Kd.C (Kd.int .u8) w A2 l2.length l2) (hc2 : l2.length ≤ c2) (hlen0 : l0.length ≤ 1048576) (hlen2 : l2.length ≤ 1048576)
    (ke0 ke2 keqr khr km0 km2 kt0 kt2 : Nat) (h_t0 : laws_toByteS.f kt0 l0 = some l0) (h_e0 : laws_eqByteS.f ke0 l0 l0 = some true) (h_t2 : laws_toByteS.f kt2 l2 = some l2) (h_e2 : laws_eqByteS.f ke2 l2 l2 = some true) (h_spec : ∀ (B0 : Option Addr) (d0 : Nat) (B2 : Option Addr) (d2 : Nat) (W : World), Kd.C (Kd.int .u8) W B0 l0.length l0 → l0.length ≤ d0 → Kd.C (Kd.int .u8) W B2 l2.length l2 → l2.length ≤ d2 → Calls Try.prog 7 #[.slice B0 l0.length d0, .int .i64 a1, .slice B2 l2.length d2] W (fun e w' => ∃ R2 e2 R5 e5, e = .returned (.agg #[.int .i64 q0, .int .i64 q1, .slice R2 rs2.length e2, .int .i64 q3, .int .i64 q4, .slice R5 rs5.length e5]) ∧ rs2.length ≤ e2 ∧ rs5.length ≤ e5 ∧ AR W.heap.size w' W.heap.size w'.heap.size R2 rs2 ∧ AR W.heap.size w' W.heap.size w'.heap.size R5 rs5 ∧ Below W.heap.size W w')) (h_impl : ∀ (B0 : Option Addr) (d0 : Nat) (B2 : Option Addr) (d2 : Nat) (W : World), Kd.C (Kd.int .u8) W B0 l0.length l0 → l0.length ≤ d0 → Kd.C (Kd.int .u8) W B2 l2.length l2 → l2.length ≤ d2 → Calls Try.prog 9 #[.slice B0 l0.length d0, .int .i64 a1, .slice B2 l2.length d2] W (fun e w' => ∃ R2 e2 R5 e5, e = .returned (.agg #[.int .i64 q0, .int .i64 q1, .slice R2 rs2.length e2, .int .i64 q3, .int .i64 q4, .slice R5 rs5.length e5]) ∧ rs2.length ≤ e2 ∧ rs5.length ≤ e5 ∧ SG W.heap.size w' W.heap.size w'.heap.size R2 rs2 R5 rs5 ∧ Below W.heap.size W w')) (h_eqr : laws_eqSignResult.f keqr q0 q1 rs2 q3 q4 rs5 q0 q1 rs2 q3 q4 rs5 = some true) (h_m0 : laws_markByteS.f km0 l0 (1) = some (1 + (l0.length : Int), ml0)) (h_m2 : laws_markByteS.f km2 l2 (1 + (l0.length : Int)) = some (1 + (l0.length : Int) + (l2.length : Int), ml2)) (h_n1 : rs2.flatten.length = n1) (h_u1 : rs2.length ≤ 1000000000) (h_n2 : rs5.flatten.length = n2) (h_u2 : rs5.length ≤ 1000000000) (h_pr : (1 : Int) + (n1 : Int) + (n2 : Int) ≤ 4611686018427387904) (h_q1 : markAll 1 rs2 = mr1) (h_q2 : markAll (1 + (n1 : Int)) rs5 = mr2) (h_r1 : mr1.length = rs2.length) (h_r2 : mr2.length = rs5.length) (h_hr : laws_heldSignResult.f khr q0 q1 mr1 q3 q4 mr2 1 = some (1 + (n1 : Int) + (n2 : Int))) :
    Calls Try.prog 3 #[.slice A0 l0.length c0, .int .i64 a1, .slice A2 l2.length c2] w fun e w' => e = .returned (.bool true) ∧ Below w.heap.size w w' := by
  have HR0 := Aside0.mk hr0
  have HR2 := Aside0.mk hr2
  have HC0 := Aside0.mk hc0
  have HC2 := Aside0.mk hc2
  have H_t0 := Aside0.mk h_t0
  have H_e0 := Aside0.mk h_e0
  have H_t2 := Aside0.mk h_t2
  have H_e2 := Aside0.mk h_e2
  have H_spec := Aside0.mk h_spec
  have H_impl := Aside0.mk h_impl
  have H_eqr := Aside0.mk h_eqr
  have H_m0 := Aside0.mk h_m0
  have H_m2 := Aside0.mk h_m2
  have H_n1 := Aside0.mk h_n1
  have H_u1 := Aside0.mk h_u1
  have H_n2 := Aside0.mk h_n2
  have H_u2 := Aside0.mk h_u2
  have H_pr := Aside0.mk h_pr
  have H_q1 := Aside0.mk h_q1
  have H_q2 := Aside0.mk h_q2
  have H_r1 := Aside0.mk h_r1
  have H_r2 := Aside0.mk h_r2
  have H_hr := Aside0.mk h_hr
  have HB := Aside0.mk (Below.refl w.heap.size w)
  have ZZ := Aside0.mk (Nat.le_refl w.heap.size)
  have cg0_ : decide ((l0.length : Int) > 1048576) = false := decide_eq_false (by omega)
  have ch0_ : decide ((1048576 : Int) < (l0.length : Int)) = false := decide_eq_false (by omega)
  have cg2_ : decide ((l2.length : Int) > 1048576) = false := decide_eq_false (by omega)
  have ch2_ : decide ((1048576 : Int) < (l2.length : Int)) = false := decide_eq_false (by omega)
  have cz_ : decide ((1 + (n1 : Int) + (n2 : Int)) < 0) = false := decide_eq_false (by omega)
  have cy_ : decide ((1 + (l0.length : Int) + (l2.length : Int)) < 0) = false := decide_eq_false (by omega)
  have hud_ := Try.underlying29
  have hue_ := Try.underlying27
  have huf_ := Try.underlying25
  clear hr0 hc0 hr2 hc2 hlen0 hlen2 h_t0 h_e0 h_t2 h_e2 h_spec h_impl h_eqr h_m0 h_m2 h_n1 h_u1 h_n2 h_u2 h_pr h_q1 h_q2 h_r1 h_r2 h_hr
  go_enter Try.func3, Try.ntmps3
  go_wp2_with (first | (go_at_call 8; refine hold_here ?_))
  refine hold_go ?_
  refine (laws_toByteS.calls _ A0 c0 l0 l0 _ ?s1 ?s2 H_t0.out).mono ?_
  case s1 => exact Kd.C_below HR0.out HB.out
  case s2 => exact HC0.out
  rintro e w1_ ⟨v, rfl, ho, hb⟩
  replace HB := Aside0.mk (below_step HB.out hb)
  replace ZZ := Aside0.mk (And.intro ZZ.out (show w.heap.size ≤ w1_.heap.size from hb.size))
  obtain ⟨A_T0, c_T0, ev_, hA_T0⟩ := B_of_R (base := w.heap.size) ho (show w.heap.size ≤ w.heap.size from (by have h_ := ZZ.out; omega))
  subst ev_
  have T0 := Aside0.mk (show Kd.R (Kd.int .u8) 5 w1_ w.heap.size (In w.heap.size w1_.heap.size) (.slice A_T0 l0.length c_T0) l0 from hA_T0)
  clear hA_T0 ho
  clear hb
  go_wp2_with (first | (go_at_call 8; refine hold_here ?_))
  refine hold_go ?_
  refine (laws_toByteS.calls _ A2 c2 l2 l2 _ ?s1 ?s2 H_t2.out).mono ?_
  case s1 => exact Kd.C_below HR2.out HB.out
  case s2 => exact HC2.out
  rintro e w2_ ⟨v, rfl, ho, hb⟩
  replace T0 := Aside0.mk (Kd.R_below T0.out hb)
  replace HB := Aside0.mk (below_step HB.out hb)
  replace ZZ := Aside0.mk (And.intro ZZ.out (show w1_.heap.size ≤ w2_.heap.size from hb.size))
  obtain ⟨A_T2, c_T2, ev_, hA_T2⟩ := B_of_R (base := w.heap.size) ho (show w.heap.size ≤ w1_.heap.size from (by have h_ := ZZ.out; omega))
  subst ev_
  have T2 := Aside0.mk (show Kd.R (Kd.int .u8) 5 w2_ w.heap.size (In w1_.heap.size w2_.heap.size) (.slice A_T2 l2.length c_T2) l2 from hA_T2)
  clear hA_T2 ho
  clear hb
  go_wp2_with (first | (go_at_call 7; refine hold_here ?_))
  refine hold_go ?_
  refine (H_spec.out A_T0 c_T0 A_T2 c_T2 _ ?s1 ?s2 ?s3 ?s4).mono ?_
  case s1 => exact (Kd.R_reads' T0.out).2.2
  case s2 => exact (Kd.R_reads' T0.out).2.1
  case s3 => exact (Kd.R_reads' T2.out).2.2
  case s4 => exact (Kd.R_reads' T2.out).2.1
  rintro e w3_ ⟨A_W2, c_W2, A_W5, c_W5, rfl, hc_2, hc_5, ha_2, ha_5, hb⟩
  replace T0 := Aside0.mk (Kd.R_below T0.out hb)
  replace T2 := Aside0.mk (Kd.R_below T2.out hb)
  replace HB := Aside0.mk (below_step HB.out hb)
  replace ZZ := Aside0.mk (And.intro ZZ.out (show w2_.heap.size ≤ w3_.heap.size from hb.size))
  have HC_W2 := Aside0.mk hc_2
  have W2 := Aside0.mk (show AR w.heap.size w3_ w2_.heap.size w3_.heap.size A_W2 rs2 from AR.lower ha_2 (by have h_ := ZZ.out; omega))
  have HC_W5 := Aside0.mk hc_5
  have W5 := Aside0.mk (show AR w.heap.size w3_ w2_.heap.size w3_.heap.size A_W5 rs5 from AR.lower ha_5 (by have h_ := ZZ.out; omega))
  clear ha_2 hc_2 ha_5 hc_5
  clear hb
  go_wp2_with (first | ((with_reducible refine gate_dst (N := 7) rfl ?_); refine hold_here ?_))
  refine hold_go ?_
  refine box_event (N := 7) (cs := #[.int .i64 0, .int .i64 0, .slice none 0 0, .int .i64 0, .int .i64 0, .slice none 0 0]) (t := 29) ?hgb rfl ?hrb ?_
  case hgb => rfl
  case hrb => first | (go_simp; done) | (go_simp; rfl)
  intro g7_ hg w4_ hbox hb
  replace T0 := Aside0.mk (Kd.R_below T0.out hb)
  replace T2 := Aside0.mk (Kd.R_below T2.out hb)
  replace W2 := Aside0.mk (AR.below W2.out hb)
  replace W5 := Aside0.mk (AR.below W5.out hb)
  replace HB := Aside0.mk (below_step HB.out hb)
  replace ZZ := Aside0.mk (And.intro ZZ.out (show w3_.heap.size ≤ w4_.heap.size from hb.size))
  have BK7 := Aside0.mk hbox
  replace ZZ := Aside0.mk (And.intro ZZ.out (And.intro (show g7_ = w3_.heap.size from hg) (show g7_ < w4_.heap.size from blk_lt hbox)))
  clear hb hbox hg
  go_wp2_with (first | ((with_reducible refine gate_store (t := 29) (p := 7) (v := .tmp 26) rfl ?_); refine hold_here ?_))
  refine hold_go ?_
  refine row_store rfl 29 (.tmp 7) (.tmp 26) rfl g7_ #[.int .i64 q0, .int .i64 q1, .slice A_W2 rs2.length c_W2, .int .i64 q3, .int .i64 q4, .slice A_W5 rs5.length c_W5] rfl ?hy 29 _ BK7.out ?hi ?ho ?h1 rfl HB.out (show w.heap.size ≤ g7_ from (by have h_ := ZZ.out; omega)) ?_
  case hy => rfl
  case hi => kernel_rfl
  case ho => rfl
  case h1 => first | rfl | (simp [Value.oneCell']; done) | (go_simp; done)
  intro w5_ bo hk hb2
  clear BK7
  replace T0 := Aside0.mk (B_kept T0.out hk (by have h_ := ZZ.out; omega))
  replace T2 := Aside0.mk (B_kept T2.out hk (by have h_ := ZZ.out; omega))
  replace W2 := Aside0.mk (AR.kept W2.out hk (by have h_ := ZZ.out; omega))
  replace W5 := Aside0.mk (AR.kept W5.out hk (by have h_ := ZZ.out; omega))
  replace HB := Aside0.mk hb2
  replace ZZ := Aside0.mk (And.intro ZZ.out (show w4_.heap.size ≤ w5_.heap.size from hk.1))
  have BK7 := Aside0.mk bo
  clear bo hk hb2
  clear T0
  clear T2
  go_wp2_with (first | (go_at_call 8; refine hold_here ?_))
  refine hold_go ?_
  refine (laws_toByteS.calls _ A0 c0 l0 l0 _ ?s1 ?s2 H_t0.out).mono ?_
  case s1 => exact Kd.C_below HR0.out HB.out
  case s2 => exact HC0.out
  rintro e w6_ ⟨v, rfl, ho, hb⟩
  replace W2 := Aside0.mk (AR.below W2.out hb)
  replace W5 := Aside0.mk (AR.below W5.out hb)
  replace BK7 := Aside0.mk (blk_below BK7.out hb)
  replace HB := Aside0.mk (below_step HB.out hb)
  replace ZZ := Aside0.mk (And.intro ZZ.out (show w5_.heap.size ≤ w6_.heap.size from hb.size))
  obtain ⟨A_X0_, c_X0_, ev_, hA_X0_⟩ := B_of_R (base := w.heap.size) ho (show w.heap.size ≤ w5_.heap.size from (by have h_ := ZZ.out; omega))
  subst ev_
  have X0_ := Aside0.mk (show Kd.R (Kd.int .u8) 5 w6_ w.heap.size (In w5_.heap.size w6_.heap.size) (.slice A_X0_ l0.length c_X0_) l0 from hA_X0_)
  clear hA_X0_ ho
  clear hb
  go_wp2_with (first | (go_at_call 8; refine hold_here ?_))
  refine hold_go ?_
  refine (laws_toByteS.calls _ A2 c2 l2 l2 _ ?s1 ?s2 H_t2.out).mono ?_
  case s1 => exact Kd.C_below HR2.out HB.out
  case s2 => exact HC2.out
  rintro e w7_ ⟨v, rfl, ho, hb⟩
  replace W2 := Aside0.mk (AR.below W2.out hb)
  replace W5 := Aside0.mk (AR.below W5.out hb)
  replace BK7 := Aside0.mk (blk_below BK7.out hb)
  replace X0_ := Aside0.mk (Kd.R_below X0_.out hb)
  replace HB := Aside0.mk (below_step HB.out hb)
  replace ZZ := Aside0.mk (And.intro ZZ.out (show w6_.heap.size ≤ w7_.heap.size from hb.size))
  obtain ⟨A_X2_, c_X2_, ev_, hA_X2_⟩ := B_of_R (base := w.heap.size) ho (show w.heap.size ≤ w6_.heap.size from (by have h_ := ZZ.out; omega))
  subst ev_
  have X2_ := Aside0.mk (show Kd.R (Kd.int .u8) 5 w7_ w.heap.size (In w6_.heap.size w7_.heap.size) (.slice A_X2_ l2.length c_X2_) l2 from hA_X2_)
  clear hA_X2_ ho
  clear hb
  have Y0 := X0_
  clear X0_
  have Y2 := X2_
  clear X2_
  obtain ⟨A_Y0, eA_⟩ : ∃ A, A = A_X0_ := ⟨_, rfl⟩
  subst eA_
  obtain ⟨c_Y0, eC_⟩ : ∃ c, c = c_X0_ := ⟨_, rfl⟩
  subst eC_
  obtain ⟨A_Y2, eA_⟩ : ∃ A, A = A_X2_ := ⟨_, rfl⟩
  subst eA_
  obtain ⟨c_Y2, eC_⟩ : ∃ c, c = c_X2_ := ⟨_, rfl⟩
  subst eC_
  go_wp2_with (first | (go_at_call 9; refine hold_here ?_))
  refine hold_go ?_
  refine (H_impl.out A_Y0 c_Y0 A_Y2 c_Y2 _ ?s1 ?s2 ?s3 ?s4).mono ?_
  case s1 => exact (Kd.R_reads' Y0.out).2.2
  case s2 => exact (Kd.R_reads' Y0.out).2.1
  case s3 => exact (Kd.R_reads' Y2.out).2.2
  case s4 => exact (Kd.R_reads' Y2.out).2.1
  rintro e w8_ ⟨A_G2, c_G2, A_G5, c_G5, rfl, hc_2, hc_5, ha, hb⟩
  replace W2 := Aside0.mk (AR.below W2.out hb)
  replace W5 := Aside0.mk (AR.below W5.out hb)
  replace BK7 := Aside0.mk (blk_below BK7.out hb)
  replace Y0 := Aside0.mk (Kd.R_below Y0.out hb)
  replace Y2 := Aside0.mk (Kd.R_below Y2.out hb)
  replace HB := Aside0.mk (below_step HB.out hb)
  replace ZZ := Aside0.mk (And.intro ZZ.out (show w7_.heap.size ≤ w8_.heap.size from hb.size))
  have HC_G2 := Aside0.mk hc_2
  have HC_G5 := Aside0.mk hc_5
  have G := Aside0.mk (show SG w.heap.size w8_ w7_.heap.size w8_.heap.size A_G2 rs2 A_G5 rs5 from SG.lower ha (by have h_ := ZZ.out; omega))
  clear ha hc_2 hc_5
  clear hb
  go_wp2_with (first | ((with_reducible refine gate_dst (N := 10) rfl ?_); refine hold_here ?_))
  refine hold_go ?_
  refine box_event (N := 10) (cs := #[.int .i64 0, .int .i64 0, .slice none 0 0, .int .i64 0, .int .i64 0, .slice none 0 0]) (t := 29) ?hgb rfl ?hrb ?_
  case hgb => rfl
  case hrb => first | (go_simp; done) | (go_simp; rfl)
  intro g10_ hg w9_ hbox hb
  replace W2 := Aside0.mk (AR.below W2.out hb)
  replace W5 := Aside0.mk (AR.below W5.out hb)
  replace BK7 := Aside0.mk (blk_below BK7.out hb)
  replace Y0 := Aside0.mk (Kd.R_below Y0.out hb)
  replace Y2 := Aside0.mk (Kd.R_below Y2.out hb)
  replace G := Aside0.mk (SG.below G.out hb)
  replace HB := Aside0.mk (below_step HB.out hb)
  replace ZZ := Aside0.mk (And.intro ZZ.out (show w8_.heap.size ≤ w9_.heap.size from hb.size))
  have BK10 := Aside0.mk hbox
  replace ZZ := Aside0.mk (And.intro ZZ.out (And.intro (show g10_ = w8_.heap.size from hg) (show g10_ < w9_.heap.size from blk_lt hbox)))
  clear hb hbox hg
  go_wp2_with (first | ((with_reducible refine gate_store (t := 29) (p := 10) (v := .tmp 34) rfl ?_); refine hold_here ?_))
  refine hold_go ?_
  refine row_store rfl 29 (.tmp 10) (.tmp 34) rfl g10_ #[.int .i64 q0, .int .i64 q1, .slice A_G2 rs2.length c_G2, .int .i64 q3, .int .i64 q4, .slice A_G5 rs5.length c_G5] rfl ?hy 29 _ BK10.out ?hi ?ho ?h1 rfl HB.out (show w.heap.size ≤ g10_ from (by have h_ := ZZ.out; omega)) ?_
  case hy => rfl
  case hi => kernel_rfl
  case ho => rfl
  case h1 => first | rfl | (simp [Value.oneCell']; done) | (go_simp; done)
  intro w10_ bo hk hb2
  clear BK10
  replace W2 := Aside0.mk (AR.kept W2.out hk (by have h_ := ZZ.out; omega))
  replace W5 := Aside0.mk (AR.kept W5.out hk (by have h_ := ZZ.out; omega))
  replace BK7 := Aside0.mk (blk_keptIn BK7.out hk (by have h_ := ZZ.out; omega))
  replace Y0 := Aside0.mk (B_kept Y0.out hk (by have h_ := ZZ.out; omega))
  replace Y2 := Aside0.mk (B_kept Y2.out hk (by have h_ := ZZ.out; omega))
  replace G := Aside0.mk (SG.kept G.out hk (by have h_ := ZZ.out; omega))
  replace HB := Aside0.mk hb2
  replace ZZ := Aside0.mk (And.intro ZZ.out (show w9_.heap.size ≤ w10_.heap.size from hk.1))
  have BK10 := Aside0.mk bo
  clear bo hk hb2
  have hz_BK10_0 : w10_.cell? ⟨g10_, 0, none⟩ = some (.int .i64 q0) := (blk_cell BK10.out 0).trans rfl
  have hz_BK10_1 : w10_.cell? ⟨g10_, 1, none⟩ = some (.int .i64 q1) := (blk_cell BK10.out 1).trans rfl
  have hz_BK10_2 : w10_.cell? ⟨g10_, 2, none⟩ = some (.slice A_G2 rs2.length c_G2) := (blk_cell BK10.out 2).trans rfl
  have hz_BK10_3 : w10_.cell? ⟨g10_, 3, none⟩ = some (.int .i64 q3) := (blk_cell BK10.out 3).trans rfl
  have hz_BK10_4 : w10_.cell? ⟨g10_, 4, none⟩ = some (.int .i64 q4) := (blk_cell BK10.out 4).trans rfl
  have hz_BK10_5 : w10_.cell? ⟨g10_, 5, none⟩ = some (.slice A_G5 rs5.length c_G5) := (blk_cell BK10.out 5).trans rfl
  have hz_BK7_0 : w10_.cell? ⟨g7_, 0, none⟩ = some (.int .i64 q0) := (blk_cell BK7.out 0).trans rfl
  have hz_BK7_1 : w10_.cell? ⟨g7_, 1, none⟩ = some (.int .i64 q1) := (blk_cell BK7.out 1).trans rfl
  have hz_BK7_2 : w10_.cell? ⟨g7_, 2, none⟩ = some (.slice A_W2 rs2.length c_W2) := (blk_cell BK7.out 2).trans rfl
  have hz_BK7_3 : w10_.cell? ⟨g7_, 3, none⟩ = some (.int .i64 q3) := (blk_cell BK7.out 3).trans rfl
  have hz_BK7_4 : w10_.cell? ⟨g7_, 4, none⟩ = some (.int .i64 q4) := (blk_cell BK7.out 4).trans rfl
  have hz_BK7_5 : w10_.cell? ⟨g7_, 5, none⟩ = some (.slice A_W5 rs5.length c_W5) := (blk_cell BK7.out 5).trans rfl
  go_wp2_with (first | (go_at_call 10; refine hold_here ?_))
  refine hold_go ?_
  refine (laws_eqSignResult.calls _ q0 q1 A_G2 c_G2 rs2 q3 q4 A_G5 c_G5 rs5 q0 q1 A_W2 c_W2 rs2 q3 q4 A_W5 c_W5 rs5 true _ ?s1 ?s2 ?s3 ?s4 ?s5 ?s6 ?s7 ?s8 H_eqr.out).mono ?_
  case s1 => exact Kd.F_now (AR.foot (SG.ar1 G.out))
  case s2 => exact HC_G2.out
  case s3 => exact Kd.F_now (AR.foot (SG.ar2 G.out))
  case s4 => exact HC_G5.out
  case s5 => exact Kd.F_now (AR.foot W2.out)
  case s6 => exact HC_W2.out
  case s7 => exact Kd.F_now (AR.foot W5.out)
  case s8 => exact HC_W5.out
  rintro e w11_ ⟨rfl, hb⟩
  replace W2 := Aside0.mk (AR.below W2.out hb)
  replace W5 := Aside0.mk (AR.below W5.out hb)
  replace BK7 := Aside0.mk (blk_below BK7.out hb)
  replace Y0 := Aside0.mk (Kd.R_below Y0.out hb)
  replace Y2 := Aside0.mk (Kd.R_below Y2.out hb)
  replace G := Aside0.mk (SG.below G.out hb)
  replace BK10 := Aside0.mk (blk_below BK10.out hb)
  replace HB := Aside0.mk (below_step HB.out hb)
  clear hz_BK10_0 hz_BK10_1 hz_BK10_2 hz_BK10_3 hz_BK10_4 hz_BK10_5 hz_BK7_0 hz_BK7_1 hz_BK7_2 hz_BK7_3 hz_BK7_4 hz_BK7_5
  replace ZZ := Aside0.mk (And.intro ZZ.out (show w10_.heap.size ≤ w11_.heap.size from hb.size))
  clear hb
  go_wp2_with (first | (go_at_call 8; refine hold_here ?_))
  refine hold_go ?_
  refine (laws_toByteS.calls _ A0 c0 l0 l0 _ ?s1 ?s2 H_t0.out).mono ?_
  case s1 => exact Kd.C_below HR0.out HB.out
  case s2 => exact HC0.out
  rintro e w12_ ⟨v, rfl, ho, hb⟩
  replace W2 := Aside0.mk (AR.below W2.out hb)
  replace W5 := Aside0.mk (AR.below W5.out hb)
  replace BK7 := Aside0.mk (blk_below BK7.out hb)
  replace Y0 := Aside0.mk (Kd.R_below Y0.out hb)
  replace Y2 := Aside0.mk (Kd.R_below Y2.out hb)
  replace G := Aside0.mk (SG.below G.out hb)
  replace BK10 := Aside0.mk (blk_below BK10.out hb)
  replace HB := Aside0.mk (below_step HB.out hb)
  replace ZZ := Aside0.mk (And.intro ZZ.out (show w11_.heap.size ≤ w12_.heap.size from hb.size))
  obtain ⟨A_T0, c_T0, ev_, hA_T0⟩ := B_of_R (base := w.heap.size) ho (show w.heap.size ≤ w11_.heap.size from (by have h_ := ZZ.out; omega))
  subst ev_
  have T0 := Aside0.mk (show Kd.R (Kd.int .u8) 5 w12_ w.heap.size (In w11_.heap.size w12_.heap.size) (.slice A_T0 l0.length c_T0) l0 from hA_T0)
  clear hA_T0 ho
  clear hb
  go_wp2_with (first | (go_at_call 11; refine hold_here ?_))
  refine hold_go ?_
  refine (laws_eqByteS.calls _ A_Y0 c_Y0 l0 A_T0 c_T0 l0 true _ ?s1 ?s2 ?s3 ?s4 H_e0.out).mono ?_
  case s1 => exact (Kd.R_reads' Y0.out).2.2
  case s2 => exact (Kd.R_reads' Y0.out).2.1
  case s3 => exact (Kd.R_reads' T0.out).2.2
  case s4 => exact (Kd.R_reads' T0.out).2.1
  rintro e w13_ ⟨rfl, hd⟩
  have hb := hd.below
  clear hd
  replace W2 := Aside0.mk (AR.below W2.out hb)
  replace W5 := Aside0.mk (AR.below W5.out hb)
  replace BK7 := Aside0.mk (blk_below BK7.out hb)
  replace Y0 := Aside0.mk (Kd.R_below Y0.out hb)
  replace Y2 := Aside0.mk (Kd.R_below Y2.out hb)
  replace G := Aside0.mk (SG.below G.out hb)
  replace BK10 := Aside0.mk (blk_below BK10.out hb)
  replace T0 := Aside0.mk (Kd.R_below T0.out hb)
  replace HB := Aside0.mk (below_step HB.out hb)
  replace ZZ := Aside0.mk (And.intro ZZ.out (show w12_.heap.size ≤ w13_.heap.size from hb.size))
  clear hb
  clear T0
  go_wp2_with (first | (go_at_call 8; refine hold_here ?_))
  refine hold_go ?_
  refine (laws_toByteS.calls _ A2 c2 l2 l2 _ ?s1 ?s2 H_t2.out).mono ?_
  case s1 => exact Kd.C_below HR2.out HB.out
  case s2 => exact HC2.out
  rintro e w14_ ⟨v, rfl, ho, hb⟩
  replace W2 := Aside0.mk (AR.below W2.out hb)
  replace W5 := Aside0.mk (AR.below W5.out hb)
  replace BK7 := Aside0.mk (blk_below BK7.out hb)
  replace Y0 := Aside0.mk (Kd.R_below Y0.out hb)
  replace Y2 := Aside0.mk (Kd.R_below Y2.out hb)
  replace G := Aside0.mk (SG.below G.out hb)
  replace BK10 := Aside0.mk (blk_below BK10.out hb)
  replace HB := Aside0.mk (below_step HB.out hb)
  replace ZZ := Aside0.mk (And.intro ZZ.out (show w13_.heap.size ≤ w14_.heap.size from hb.size))
  obtain ⟨A_T2, c_T2, ev_, hA_T2⟩ := B_of_R (base := w.heap.size) ho (show w.heap.size ≤ w13_.heap.size from (by have h_ := ZZ.out; omega))
  subst ev_
  have T2 := Aside0.mk (show Kd.R (Kd.int .u8) 5 w14_ w.heap.size (In w13_.heap.size w14_.heap.size) (.slice A_T2 l2.length c_T2) l2 from hA_T2)
  clear hA_T2 ho
  clear hb
  go_wp2_with (first | (go_at_call 11; refine hold_here ?_))
  refine hold_go ?_
  refine (laws_eqByteS.calls _ A_Y2 c_Y2 l2 A_T2 c_T2 l2 true _ ?s1 ?s2 ?s3 ?s4 H_e2.out).mono ?_
  case s1 => exact (Kd.R_reads' Y2.out).2.2
  case s2 => exact (Kd.R_reads' Y2.out).2.1
  case s3 => exact (Kd.R_reads' T2.out).2.2
  case s4 => exact (Kd.R_reads' T2.out).2.1
  rintro e w15_ ⟨rfl, hd⟩
  have hb := hd.below
  clear hd
  replace W2 := Aside0.mk (AR.below W2.out hb)
  replace W5 := Aside0.mk (AR.below W5.out hb)
  replace BK7 := Aside0.mk (blk_below BK7.out hb)
  replace Y0 := Aside0.mk (Kd.R_below Y0.out hb)
  replace Y2 := Aside0.mk (Kd.R_below Y2.out hb)
  replace G := Aside0.mk (SG.below G.out hb)
  replace BK10 := Aside0.mk (blk_below BK10.out hb)
  replace T2 := Aside0.mk (Kd.R_below T2.out hb)
  replace HB := Aside0.mk (below_step HB.out hb)
  replace ZZ := Aside0.mk (And.intro ZZ.out (show w14_.heap.size ≤ w15_.heap.size from hb.size))
  clear hb
  clear T2
  go_wp2_with (first | (go_at_call 12; refine hold_here ?_))
  refine hold_go ?_
  refine (laws_markByteS.calls _ (In w5_.heap.size w6_.heap.size) (.slice A_Y0 l0.length c_Y0) l0 (1) _ _ w _ ?s1 ?s2 H_m0.out).mono ?_
  case s1 => exact HB.out
  case s2 => exact Y0.out
  rintro e w16_ ⟨rfl, hR, hb2, hk⟩
  clear Y0
  replace W2 := Aside0.mk (AR.kept W2.out hk (by have h_ := ZZ.out; omega))
  replace W5 := Aside0.mk (AR.kept W5.out hk (by have h_ := ZZ.out; omega))
  replace BK7 := Aside0.mk (blk_keptIn BK7.out hk (by have h_ := ZZ.out; omega))
  replace Y2 := Aside0.mk (B_kept Y2.out hk (by have h_ := ZZ.out; omega))
  replace G := Aside0.mk (SG.kept G.out hk (by have h_ := ZZ.out; omega))
  replace BK10 := Aside0.mk (blk_keptIn BK10.out hk (by have h_ := ZZ.out; omega))
  replace HB := Aside0.mk hb2
  replace ZZ := Aside0.mk (And.intro ZZ.out (show w15_.heap.size ≤ w16_.heap.size from hk.1))
  clear hR
  clear hk hb2
  go_wp2_with (first | (go_at_call 12; refine hold_here ?_))
  refine hold_go ?_
  refine (laws_markByteS.calls _ (In w6_.heap.size w7_.heap.size) (.slice A_Y2 l2.length c_Y2) l2 (1 + (l0.length : Int)) _ _ w _ ?s1 ?s2 H_m2.out).mono ?_
  case s1 => exact HB.out
  case s2 => exact Y2.out
  rintro e w17_ ⟨rfl, hR, hb2, hk⟩
  clear Y2
  replace W2 := Aside0.mk (AR.kept W2.out hk (by have h_ := ZZ.out; omega))
  replace W5 := Aside0.mk (AR.kept W5.out hk (by have h_ := ZZ.out; omega))
  replace BK7 := Aside0.mk (blk_keptIn BK7.out hk (by have h_ := ZZ.out; omega))
  replace G := Aside0.mk (SG.kept G.out hk (by have h_ := ZZ.out; omega))
  replace BK10 := Aside0.mk (blk_keptIn BK10.out hk (by have h_ := ZZ.out; omega))
  replace HB := Aside0.mk hb2
  replace ZZ := Aside0.mk (And.intro ZZ.out (show w16_.heap.size ≤ w17_.heap.size from hk.1))
  clear hR
  clear hk hb2
  have hz_BK10_0 : w17_.cell? ⟨g10_, 0, none⟩ = some (.int .i64 q0) := (blk_cell BK10.out 0).trans rfl
  have hz_BK10_1 : w17_.cell? ⟨g10_, 1, none⟩ = some (.int .i64 q1) := (blk_cell BK10.out 1).trans rfl
  have hz_BK10_2 : w17_.cell? ⟨g10_, 2, none⟩ = some (.slice A_G2 rs2.length c_G2) := (blk_cell BK10.out 2).trans rfl
  have hz_BK10_3 : w17_.cell? ⟨g10_, 3, none⟩ = some (.int .i64 q3) := (blk_cell BK10.out 3).trans rfl
  have hz_BK10_4 : w17_.cell? ⟨g10_, 4, none⟩ = some (.int .i64 q4) := (blk_cell BK10.out 4).trans rfl
  have hz_BK10_5 : w17_.cell? ⟨g10_, 5, none⟩ = some (.slice A_G5 rs5.length c_G5) := (blk_cell BK10.out 5).trans rfl
  have hz_BK7_0 : w17_.cell? ⟨g7_, 0, none⟩ = some (.int .i64 q0) := (blk_cell BK7.out 0).trans rfl
  have hz_BK7_1 : w17_.cell? ⟨g7_, 1, none⟩ = some (.int .i64 q1) := (blk_cell BK7.out 1).trans rfl
  have hz_BK7_2 : w17_.cell? ⟨g7_, 2, none⟩ = some (.slice A_W2 rs2.length c_W2) := (blk_cell BK7.out 2).trans rfl
  have hz_BK7_3 : w17_.cell? ⟨g7_, 3, none⟩ = some (.int .i64 q3) := (blk_cell BK7.out 3).trans rfl
  have hz_BK7_4 : w17_.cell? ⟨g7_, 4, none⟩ = some (.int .i64 q4) := (blk_cell BK7.out 4).trans rfl
  have hz_BK7_5 : w17_.cell? ⟨g7_, 5, none⟩ = some (.slice A_W5 rs5.length c_W5) := (blk_cell BK7.out 5).trans rfl
  go_wp2_with (first | (go_at_call 10; refine hold_here ?_))
  refine hold_go ?_
  refine (laws_eqSignResult.calls _ q0 q1 A_G2 c_G2 rs2 q3 q4 A_G5 c_G5 rs5 q0 q1 A_W2 c_W2 rs2 q3 q4 A_W5 c_W5 rs5 true _ ?s1 ?s2 ?s3 ?s4 ?s5 ?s6 ?s7 ?s8 H_eqr.out).mono ?_
  case s1 => exact Kd.F_now (AR.foot (SG.ar1 G.out))
  case s2 => exact HC_G2.out
  case s3 => exact Kd.F_now (AR.foot (SG.ar2 G.out))
  case s4 => exact HC_G5.out
  case s5 => exact Kd.F_now (AR.foot W2.out)
  case s6 => exact HC_W2.out
  case s7 => exact Kd.F_now (AR.foot W5.out)
  case s8 => exact HC_W5.out
  rintro e w18_ ⟨rfl, hb⟩
  replace W2 := Aside0.mk (AR.below W2.out hb)
  replace W5 := Aside0.mk (AR.below W5.out hb)
  replace BK7 := Aside0.mk (blk_below BK7.out hb)
  replace G := Aside0.mk (SG.below G.out hb)
  replace BK10 := Aside0.mk (blk_below BK10.out hb)
  replace HB := Aside0.mk (below_step HB.out hb)
  clear hz_BK10_0 hz_BK10_1 hz_BK10_2 hz_BK10_3 hz_BK10_4 hz_BK10_5 hz_BK7_0 hz_BK7_1 hz_BK7_2 hz_BK7_3 hz_BK7_4 hz_BK7_5
  replace ZZ := Aside0.mk (And.intro ZZ.out (show w17_.heap.size ≤ w18_.heap.size from hb.size))
  clear hb
  have hz_BK10_0 : w18_.cell? ⟨g10_, 0, none⟩ = some (.int .i64 q0) := (blk_cell BK10.out 0).trans rfl
  have hz_BK10_1 : w18_.cell? ⟨g10_, 1, none⟩ = some (.int .i64 q1) := (blk_cell BK10.out 1).trans rfl
  have hz_BK10_2 : w18_.cell? ⟨g10_, 2, none⟩ = some (.slice A_G2 rs2.length c_G2) := (blk_cell BK10.out 2).trans rfl
  have hz_BK10_3 : w18_.cell? ⟨g10_, 3, none⟩ = some (.int .i64 q3) := (blk_cell BK10.out 3).trans rfl
  have hz_BK10_4 : w18_.cell? ⟨g10_, 4, none⟩ = some (.int .i64 q4) := (blk_cell BK10.out 4).trans rfl
  have hz_BK10_5 : w18_.cell? ⟨g10_, 5, none⟩ = some (.slice A_G5 rs5.length c_G5) := (blk_cell BK10.out 5).trans rfl
  go_wp2_with (first | (go_at_call 13; refine hold_here ?_))
  refine hold_go ?_
  refine (markSignResult_calls q0 q1 q3 q4 rs2 rs5 1 (by decide) n1 H_n1.out n2 H_n2.out H_pr.out w _ w7_.heap.size w8_.heap.size A_G2 c_G2 A_G5 c_G5 ?s1 ?s2 ?s3 ?s4 H_u1.out H_u2.out (by have h_ := ZZ.out; omega)).mono ?_
  case s1 => exact HB.out
  case s2 => exact G.out
  case s3 => exact HC_G2.out
  case s4 => exact HC_G5.out
  rintro e w19_ ⟨rfl, ha, hb2, hk⟩
  clear G
  replace W2 := Aside0.mk (AR.kept W2.out hk (by have h_ := ZZ.out; omega))
  replace W5 := Aside0.mk (AR.kept W5.out hk (by have h_ := ZZ.out; omega))
  replace BK7 := Aside0.mk (blk_keptIn BK7.out hk (by have h_ := ZZ.out; omega))
  replace BK10 := Aside0.mk (blk_keptIn BK10.out hk (by have h_ := ZZ.out; omega))
  replace HB := Aside0.mk hb2
  clear hz_BK10_0 hz_BK10_1 hz_BK10_2 hz_BK10_3 hz_BK10_4 hz_BK10_5
  replace ZZ := Aside0.mk (And.intro ZZ.out (show w18_.heap.size ≤ w19_.heap.size from hk.1))
  rw [H_q1.out, H_q2.out] at ha
  have G := Aside0.mk ha
  clear ha
  clear hk hb2
  have hz_BK10_0 : w19_.cell? ⟨g10_, 0, none⟩ = some (.int .i64 q0) := (blk_cell BK10.out 0).trans rfl
  have hz_BK10_1 : w19_.cell? ⟨g10_, 1, none⟩ = some (.int .i64 q1) := (blk_cell BK10.out 1).trans rfl
  have hz_BK10_2 : w19_.cell? ⟨g10_, 2, none⟩ = some (.slice A_G2 rs2.length c_G2) := (blk_cell BK10.out 2).trans rfl
  have hz_BK10_3 : w19_.cell? ⟨g10_, 3, none⟩ = some (.int .i64 q3) := (blk_cell BK10.out 3).trans rfl
  have hz_BK10_4 : w19_.cell? ⟨g10_, 4, none⟩ = some (.int .i64 q4) := (blk_cell BK10.out 4).trans rfl
  have hz_BK10_5 : w19_.cell? ⟨g10_, 5, none⟩ = some (.slice A_G5 rs5.length c_G5) := (blk_cell BK10.out 5).trans rfl
  go_wp2_with (first | (go_at_call 14; refine hold_here ?_))
  refine hold_go ?_
  refine (heldSignResult_len _ q0 q1 q3 q4 A_G2 c_G2 A_G5 c_G5 mr1 rs2.length H_r1.out mr2 rs5.length H_r2.out 1 _ _ ?s1 ?s2 ?s3 ?s4 H_hr.out).mono ?_
  case s1 => exact Kd.F_now (AR.foot (SG.ar1 G.out))
  case s2 => exact HC_G2.out
  case s3 => exact Kd.F_now (AR.foot (SG.ar2 G.out))
  case s4 => exact HC_G5.out
  rintro e w20_ ⟨rfl, hb⟩
  replace W2 := Aside0.mk (AR.below W2.out hb)
  replace W5 := Aside0.mk (AR.below W5.out hb)
  replace BK7 := Aside0.mk (blk_below BK7.out hb)
  replace BK10 := Aside0.mk (blk_below BK10.out hb)
  replace G := Aside0.mk (SG.below G.out hb)
  replace HB := Aside0.mk (below_step HB.out hb)
  clear hz_BK10_0 hz_BK10_1 hz_BK10_2 hz_BK10_3 hz_BK10_4 hz_BK10_5
  replace ZZ := Aside0.mk (And.intro ZZ.out (show w19_.heap.size ≤ w20_.heap.size from hb.size))
  clear hb
  go_wp2_with (first | (go_at_call 8; refine hold_here ?_))
  refine hold_go ?_
  refine (laws_toByteS.calls _ A0 c0 l0 l0 _ ?s1 ?s2 H_t0.out).mono ?_
  case s1 => exact Kd.C_below HR0.out HB.out
  case s2 => exact HC0.out
  rintro e w21_ ⟨v, rfl, ho, hb⟩
  replace W2 := Aside0.mk (AR.below W2.out hb)
  replace W5 := Aside0.mk (AR.below W5.out hb)
  replace BK7 := Aside0.mk (blk_below BK7.out hb)
  replace BK10 := Aside0.mk (blk_below BK10.out hb)
  replace G := Aside0.mk (SG.below G.out hb)
  replace HB := Aside0.mk (below_step HB.out hb)
  replace ZZ := Aside0.mk (And.intro ZZ.out (show w20_.heap.size ≤ w21_.heap.size from hb.size))
  obtain ⟨A_T0, c_T0, ev_, hA_T0⟩ := B_of_R (base := w.heap.size) ho (show w.heap.size ≤ w20_.heap.size from (by have h_ := ZZ.out; omega))
  subst ev_
  have T0 := Aside0.mk (show Kd.R (Kd.int .u8) 5 w21_ w.heap.size (In w20_.heap.size w21_.heap.size) (.slice A_T0 l0.length c_T0) l0 from hA_T0)
  clear hA_T0 ho
  clear hb
  go_wp2_with (first | (go_at_call 8; refine hold_here ?_))
  refine hold_go ?_
  refine (laws_toByteS.calls _ A2 c2 l2 l2 _ ?s1 ?s2 H_t2.out).mono ?_
  case s1 => exact Kd.C_below HR2.out HB.out
  case s2 => exact HC2.out
  rintro e w22_ ⟨v, rfl, ho, hb⟩
  replace W2 := Aside0.mk (AR.below W2.out hb)
  replace W5 := Aside0.mk (AR.below W5.out hb)
  replace BK7 := Aside0.mk (blk_below BK7.out hb)
  replace BK10 := Aside0.mk (blk_below BK10.out hb)
  replace G := Aside0.mk (SG.below G.out hb)
  replace T0 := Aside0.mk (Kd.R_below T0.out hb)
  replace HB := Aside0.mk (below_step HB.out hb)
  replace ZZ := Aside0.mk (And.intro ZZ.out (show w21_.heap.size ≤ w22_.heap.size from hb.size))
  obtain ⟨A_T2, c_T2, ev_, hA_T2⟩ := B_of_R (base := w.heap.size) ho (show w.heap.size ≤ w21_.heap.size from (by have h_ := ZZ.out; omega))
  subst ev_
  have T2 := Aside0.mk (show Kd.R (Kd.int .u8) 5 w22_ w.heap.size (In w21_.heap.size w22_.heap.size) (.slice A_T2 l2.length c_T2) l2 from hA_T2)
  clear hA_T2 ho
  clear hb
  go_wp2_with (first | (go_at_call 9; refine hold_here ?_))
  refine hold_go ?_
  refine (H_impl.out A_T0 c_T0 A_T2 c_T2 _ ?s1 ?s2 ?s3 ?s4).mono ?_
  case s1 => exact (Kd.R_reads' T0.out).2.2
  case s2 => exact (Kd.R_reads' T0.out).2.1
  case s3 => exact (Kd.R_reads' T2.out).2.2
  case s4 => exact (Kd.R_reads' T2.out).2.1
  rintro e w23_ ⟨A_H2, c_H2, A_H5, c_H5, rfl, hc_2, hc_5, ha, hb⟩
  replace W2 := Aside0.mk (AR.below W2.out hb)
  replace W5 := Aside0.mk (AR.below W5.out hb)
  replace BK7 := Aside0.mk (blk_below BK7.out hb)
  replace BK10 := Aside0.mk (blk_below BK10.out hb)
  replace G := Aside0.mk (SG.below G.out hb)
  replace T0 := Aside0.mk (Kd.R_below T0.out hb)
  replace T2 := Aside0.mk (Kd.R_below T2.out hb)
  replace HB := Aside0.mk (below_step HB.out hb)
  replace ZZ := Aside0.mk (And.intro ZZ.out (show w22_.heap.size ≤ w23_.heap.size from hb.size))
  have HC_H2 := Aside0.mk hc_2
  have HC_H5 := Aside0.mk hc_5
  have H := Aside0.mk (show SG w.heap.size w23_ w22_.heap.size w23_.heap.size A_H2 rs2 A_H5 rs5 from SG.lower ha (by have h_ := ZZ.out; omega))
  clear ha hc_2 hc_5
  clear hb
  go_wp2_with (first | ((with_reducible refine gate_dst (N := 14) rfl ?_); refine hold_here ?_))
  refine hold_go ?_
  refine box_event (N := 14) (cs := #[.int .i64 0, .int .i64 0, .slice none 0 0, .int .i64 0, .int .i64 0, .slice none 0 0]) (t := 29) ?hgb rfl ?hrb ?_
  case hgb => rfl
  case hrb => first | (go_simp; done) | (go_simp; rfl)
  intro g14_ hg w24_ hbox hb
  replace W2 := Aside0.mk (AR.below W2.out hb)
  replace W5 := Aside0.mk (AR.below W5.out hb)
  replace BK7 := Aside0.mk (blk_below BK7.out hb)
  replace BK10 := Aside0.mk (blk_below BK10.out hb)
  replace G := Aside0.mk (SG.below G.out hb)
  replace T0 := Aside0.mk (Kd.R_below T0.out hb)
  replace T2 := Aside0.mk (Kd.R_below T2.out hb)
  replace H := Aside0.mk (SG.below H.out hb)
  replace HB := Aside0.mk (below_step HB.out hb)
  replace ZZ := Aside0.mk (And.intro ZZ.out (show w23_.heap.size ≤ w24_.heap.size from hb.size))
  have BK14 := Aside0.mk hbox
  replace ZZ := Aside0.mk (And.intro ZZ.out (And.intro (show g14_ = w23_.heap.size from hg) (show g14_ < w24_.heap.size from blk_lt hbox)))
  clear hb hbox hg
  go_wp2_with (first | ((with_reducible refine gate_store (t := 29) (p := 14) (v := .tmp 79) rfl ?_); refine hold_here ?_))
  refine hold_go ?_
  refine row_store rfl 29 (.tmp 14) (.tmp 79) rfl g14_ #[.int .i64 q0, .int .i64 q1, .slice A_H2 rs2.length c_H2, .int .i64 q3, .int .i64 q4, .slice A_H5 rs5.length c_H5] rfl ?hy 29 _ BK14.out ?hi ?ho ?h1 rfl HB.out (show w.heap.size ≤ g14_ from (by have h_ := ZZ.out; omega)) ?_
  case hy => rfl
  case hi => kernel_rfl
  case ho => rfl
  case h1 => first | rfl | (simp [Value.oneCell']; done) | (go_simp; done)
  intro w25_ bo hk hb2
  clear BK14
  replace W2 := Aside0.mk (AR.kept W2.out hk (by have h_ := ZZ.out; omega))
  replace W5 := Aside0.mk (AR.kept W5.out hk (by have h_ := ZZ.out; omega))
  replace BK7 := Aside0.mk (blk_keptIn BK7.out hk (by have h_ := ZZ.out; omega))
  replace BK10 := Aside0.mk (blk_keptIn BK10.out hk (by have h_ := ZZ.out; omega))
  replace G := Aside0.mk (SG.kept G.out hk (by have h_ := ZZ.out; omega))
  replace T0 := Aside0.mk (B_kept T0.out hk (by have h_ := ZZ.out; omega))
  replace T2 := Aside0.mk (B_kept T2.out hk (by have h_ := ZZ.out; omega))
  replace H := Aside0.mk (SG.kept H.out hk (by have h_ := ZZ.out; omega))
  replace HB := Aside0.mk hb2
  replace ZZ := Aside0.mk (And.intro ZZ.out (show w24_.heap.size ≤ w25_.heap.size from hk.1))
  have BK14 := Aside0.mk bo
  clear bo hk hb2
  have hz_BK14_0 : w25_.cell? ⟨g14_, 0, none⟩ = some (.int .i64 q0) := (blk_cell BK14.out 0).trans rfl
  have hz_BK14_1 : w25_.cell? ⟨g14_, 1, none⟩ = some (.int .i64 q1) := (blk_cell BK14.out 1).trans rfl
  have hz_BK14_2 : w25_.cell? ⟨g14_, 2, none⟩ = some (.slice A_H2 rs2.length c_H2) := (blk_cell BK14.out 2).trans rfl
  have hz_BK14_3 : w25_.cell? ⟨g14_, 3, none⟩ = some (.int .i64 q3) := (blk_cell BK14.out 3).trans rfl
  have hz_BK14_4 : w25_.cell? ⟨g14_, 4, none⟩ = some (.int .i64 q4) := (blk_cell BK14.out 4).trans rfl
  have hz_BK14_5 : w25_.cell? ⟨g14_, 5, none⟩ = some (.slice A_H5 rs5.length c_H5) := (blk_cell BK14.out 5).trans rfl
  have hz_BK7_0 : w25_.cell? ⟨g7_, 0, none⟩ = some (.int .i64 q0) := (blk_cell BK7.out 0).trans rfl
  have hz_BK7_1 : w25_.cell? ⟨g7_, 1, none⟩ = some (.int .i64 q1) := (blk_cell BK7.out 1).trans rfl
  have hz_BK7_2 : w25_.cell? ⟨g7_, 2, none⟩ = some (.slice A_W2 rs2.length c_W2) := (blk_cell BK7.out 2).trans rfl
  have hz_BK7_3 : w25_.cell? ⟨g7_, 3, none⟩ = some (.int .i64 q3) := (blk_cell BK7.out 3).trans rfl
  have hz_BK7_4 : w25_.cell? ⟨g7_, 4, none⟩ = some (.int .i64 q4) := (blk_cell BK7.out 4).trans rfl
  have hz_BK7_5 : w25_.cell? ⟨g7_, 5, none⟩ = some (.slice A_W5 rs5.length c_W5) := (blk_cell BK7.out 5).trans rfl
  go_wp2_with (first | (go_at_call 10; refine hold_here ?_))
  refine hold_go ?_
  refine (laws_eqSignResult.calls _ q0 q1 A_H2 c_H2 rs2 q3 q4 A_H5 c_H5 rs5 q0 q1 A_W2 c_W2 rs2 q3 q4 A_W5 c_W5 rs5 true _ ?s1 ?s2 ?s3 ?s4 ?s5 ?s6 ?s7 ?s8 H_eqr.out).mono ?_
  case s1 => exact Kd.F_now (AR.foot (SG.ar1 H.out))
  case s2 => exact HC_H2.out
  case s3 => exact Kd.F_now (AR.foot (SG.ar2 H.out))
  case s4 => exact HC_H5.out
  case s5 => exact Kd.F_now (AR.foot W2.out)
  case s6 => exact HC_W2.out
  case s7 => exact Kd.F_now (AR.foot W5.out)
  case s8 => exact HC_W5.out
  rintro e w26_ ⟨rfl, hb⟩
  replace W2 := Aside0.mk (AR.below W2.out hb)
  replace W5 := Aside0.mk (AR.below W5.out hb)
  replace BK7 := Aside0.mk (blk_below BK7.out hb)
  replace BK10 := Aside0.mk (blk_below BK10.out hb)
  replace G := Aside0.mk (SG.below G.out hb)
  replace T0 := Aside0.mk (Kd.R_below T0.out hb)
  replace T2 := Aside0.mk (Kd.R_below T2.out hb)
  replace H := Aside0.mk (SG.below H.out hb)
  replace BK14 := Aside0.mk (blk_below BK14.out hb)
  replace HB := Aside0.mk (below_step HB.out hb)
  clear hz_BK14_0 hz_BK14_1 hz_BK14_2 hz_BK14_3 hz_BK14_4 hz_BK14_5 hz_BK7_0 hz_BK7_1 hz_BK7_2 hz_BK7_3 hz_BK7_4 hz_BK7_5
  replace ZZ := Aside0.mk (And.intro ZZ.out (show w25_.heap.size ≤ w26_.heap.size from hb.size))
  clear hb
  have hz_BK10_0 : w26_.cell? ⟨g10_, 0, none⟩ = some (.int .i64 q0) := (blk_cell BK10.out 0).trans rfl
  have hz_BK10_1 : w26_.cell? ⟨g10_, 1, none⟩ = some (.int .i64 q1) := (blk_cell BK10.out 1).trans rfl
  have hz_BK10_2 : w26_.cell? ⟨g10_, 2, none⟩ = some (.slice A_G2 rs2.length c_G2) := (blk_cell BK10.out 2).trans rfl
  have hz_BK10_3 : w26_.cell? ⟨g10_, 3, none⟩ = some (.int .i64 q3) := (blk_cell BK10.out 3).trans rfl
  have hz_BK10_4 : w26_.cell? ⟨g10_, 4, none⟩ = some (.int .i64 q4) := (blk_cell BK10.out 4).trans rfl
  have hz_BK10_5 : w26_.cell? ⟨g10_, 5, none⟩ = some (.slice A_G5 rs5.length c_G5) := (blk_cell BK10.out 5).trans rfl
  go_wp2_with (first | (go_at_call 14; refine hold_here ?_))
  refine hold_go ?_
  refine (heldSignResult_len _ q0 q1 q3 q4 A_G2 c_G2 A_G5 c_G5 mr1 rs2.length H_r1.out mr2 rs5.length H_r2.out 1 _ _ ?s1 ?s2 ?s3 ?s4 H_hr.out).mono ?_
  case s1 => exact Kd.F_now (AR.foot (SG.ar1 G.out))
  case s2 => exact HC_G2.out
  case s3 => exact Kd.F_now (AR.foot (SG.ar2 G.out))
  case s4 => exact HC_G5.out
  rintro e w27_ ⟨rfl, hb⟩
  replace W2 := Aside0.mk (AR.below W2.out hb)
  replace W5 := Aside0.mk (AR.below W5.out hb)
  replace BK7 := Aside0.mk (blk_below BK7.out hb)
  replace BK10 := Aside0.mk (blk_below BK10.out hb)
  replace G := Aside0.mk (SG.below G.out hb)
  replace T0 := Aside0.mk (Kd.R_below T0.out hb)
  replace T2 := Aside0.mk (Kd.R_below T2.out hb)
  replace H := Aside0.mk (SG.below H.out hb)
  replace BK14 := Aside0.mk (blk_below BK14.out hb)
  replace HB := Aside0.mk (below_step HB.out hb)
  clear hz_BK10_0 hz_BK10_1 hz_BK10_2 hz_BK10_3 hz_BK10_4 hz_BK10_5
  replace ZZ := Aside0.mk (And.intro ZZ.out (show w26_.heap.size ≤ w27_.heap.size from hb.size))
  clear hb
  go_wp2
  go_ret
  exact ⟨rfl, HB.out⟩
theorem law_SignMessage_big0 (A0 : Option Addr) (c0 : Nat) (l0 : List Int) (a1 : Int) (A2 : Option Addr) (c2 : Nat) (l2 : List Int) (w : World)  (hlen0 : ¬ l0.length ≤ 1048576) :
    Calls Try.prog 3 #[.slice A0 l0.length c0, .int .i64 a1, .slice A2 l2.length c2] w fun e w' => e = .returned (.bool true) ∧ Below w.heap.size w w' := by
  have cg0_ : decide ((l0.length : Int) > 1048576) = true := decide_eq_true (by omega)
  have ch0_ : decide ((1048576 : Int) < (l0.length : Int)) = true := decide_eq_true (by omega)
  clear hlen0
  go_enter Try.func3, Try.ntmps3
  go_wp2
  go_ret
  exact ⟨rfl, Below.refl _ _⟩
theorem law_SignMessage_big2 (A0 : Option Addr) (c0 : Nat) (l0 : List Int) (a1 : Int) (A2 : Option Addr) (c2 : Nat) (l2 : List Int) (w : World) (hlen0 : l0.length ≤ 1048576) (hlen2 : ¬ l2.length ≤ 1048576) :
    Calls Try.prog 3 #[.slice A0 l0.length c0, .int .i64 a1, .slice A2 l2.length c2] w fun e w' => e = .returned (.bool true) ∧ Below w.heap.size w w' := by
  have cg0_ : decide ((l0.length : Int) > 1048576) = false := decide_eq_false (by omega)
  have ch0_ : decide ((1048576 : Int) < (l0.length : Int)) = false := decide_eq_false (by omega)
  have cg2_ : decide ((l2.length : Int) > 1048576) = true := decide_eq_true (by omega)
  have ch2_ : decide ((1048576 : Int) < (l2.length : Int)) = true := decide_eq_true (by omega)
  clear hlen0 hlen2
  go_enter Try.func3, Try.ntmps3
  go_wp2
  go_ret
  exact ⟨rfl, Below.refl _ _⟩

end Go.Proofs.Ytchmaojmknfbpaa.S

/- DIRECT: the law FnExactSignMessage returns true at every argument: the program's SignMessage and the reference's answer alike, in new memory. No condition. -/
set_option linter.unusedVariables false
namespace Go.Proofs.Ytchmaojmknfbpaa.Pure
open Go Go.RowKit Go.Proofs.Ytchmaojmknfbpaa.S Go.Proofs.YtchmaojmknfbpaaW.PrintWords Go.Proofs.YtchmaojmknfbpaaW.PrintLast Go.Proofs.YtchmaojmknfbpaaW.PrintMore Go.Proofs.Ytchmaojmknfbpaa.Base

theorem FnExactSignMessage (l0 : List Int) (a1 : Int) (l2 : List Int) (hl0 : l0.length ≤ 9223372036854775807) (hw0 : ∀ y ∈ l0, (Lit.int .u8 y).wf = true) (_w1 : (Lit.int .i64 a1).wf = true) (hl2 : l2.length ≤ 9223372036854775807) (hw2 : ∀ y ∈ l2, (Lit.int .u8 y).wf = true) (A0 : Option Addr) (c0 : Nat) (A2 : Option Addr) (c2 : Nat) (w : World) (hr0 : Kd.C (Kd.int .u8) w A0 l0.length l0) (hc0 : l0.length ≤ c0) (hr2 : Kd.C (Kd.int .u8) w A2 l2.length l2) (hc2 : l2.length ≤ c2) :
    Calls Try.prog 3 #[.slice A0 l0.length c0, .int .i64 a1, .slice A2 l2.length c2] w fun e w' => e = .returned (.bool true) ∧ Below w.heap.size w w' := by
  by_cases hlen0 : l0.length ≤ 1048576
  · by_cases hlen2 : l2.length ≤ 1048576
    · have hy0 := byt_of_wf hw0
      have hy2 := byt_of_wf hw2
      have hs := spec_SignMessage_ev hy0 (by omega) hy2 (by omega) a1
      have hi := impl_SignMessage_ev hy0 (by omega) hy2 (by omega) a1
      obtain ⟨⟨g1, g2⟩, g3, g4⟩ := signV_ok l0 a1 l2
      generalize signV l0 a1 l2 = r at *
      obtain ⟨q0, q1, rs2, q3, q4, rs5⟩ := r
      simp only at g1 g2 g3 g4
      have f2 := flat_small g1 g2
      have f5 := flat_small g3 g4
      have m2 : ∀ l ∈ rs2, l.length ≤ 281474976710656 := fun l hm => by have := g2 l hm; omega
      have m5 : ∀ l ∈ rs5, l.length ≤ 281474976710656 := fun l hm => by have := g4 l hm; omega
      obtain ⟨ks, hs⟩ := hs.rounds
      obtain ⟨ki, hi⟩ := hi.rounds
      obtain ⟨kt0, ht0⟩ := (toByteS_ev l0 (by omega)).rounds
      obtain ⟨kt2, ht2⟩ := (toByteS_ev l2 (by omega)).rounds
      obtain ⟨ke0, he0⟩ := (eqByteS_ev l0 (by omega)).rounds
      obtain ⟨ke2, he2⟩ := (eqByteS_ev l2 (by omega)).rounds
      obtain ⟨km0, hm0⟩ := (markByteS_ev l0 1 (by omega) (by omega)).rounds
      obtain ⟨km2, hm2⟩ := (markByteS_ev l2 (1 + (l0.length : Int)) (by omega) (by omega)).rounds
      obtain ⟨kr, hr⟩ := (show Ev (fun k => laws_eqSignResult.f k q0 q1 rs2 q3 q4 rs5 q0 q1 rs2 q3 q4 rs5) true from by
        unfold laws_eqSignResult.f laws_eqSignature.f laws_eqProof.f
        exact ev_pos rfl (ev_bind (ev_pos rfl (ev_bind (eqByteSS_ev rs2 (by omega) m2) (ev_pos rfl (ev_bind (ev_pos rfl (ev_pos rfl (ev_bind (eqByteSS_ev rs5 (by omega) m5) (ev_pos rfl (ev_now rfl))))) (ev_pos rfl (ev_now rfl)))))) (ev_pos rfl (ev_now rfl)))).rounds
      obtain ⟨kh, hh⟩ := (show Ev (fun k => laws_heldSignResult.f k q0 q1 (markAll 1 rs2) q3 q4 (markAll (1 + (rs2.flatten.length : Int)) rs5) 1) (1 + (rs2.flatten.length : Int) + (rs5.flatten.length : Int)) from by
        unfold laws_heldSignResult.f laws_heldSignature.f laws_heldProof.f
        exact ev_bind (ev_bind (heldSS_ev rs2 1 (by omega) (by omega) (by omega)) (ev_neg (by omega) (ev_bind (ev_bind (heldSS_ev rs5 (1 + (rs2.flatten.length : Int)) (by omega) (by omega) (by omega)) (ev_neg (by omega) (ev_now rfl))) (ev_neg (by omega) (ev_now rfl))))) (ev_neg (by omega) (ev_now rfl))).rounds
      refine law_SignMessage A0 c0 l0 a1 A2 c2 l2 q0 q1 rs2 q3 q4 rs5 (marked 1 l0.length) (marked (1 + (l0.length : Int)) l2.length) rs2.flatten.length rs5.flatten.length (markAll 1 rs2) (markAll (1 + (rs2.flatten.length : Int)) rs5) w hr0 hc0 hr2 hc2 hlen0 hlen2 ke0 ke2 kr kh km0 km2 kt0 kt2 ht0 he0 ht2 he2 ?_ ?_ hr hm0 hm2 rfl (by omega) rfl (by omega) (by omega) rfl rfl (markAll_length rs2 _) (markAll_length rs5 _) hh
      · intro B0 d0 B2 d2 W h0 e0 h2 e2
        refine (spec_SignMessage.calls ks B0 d0 l0 a1 B2 d2 l2 q0 q1 rs2 q3 q4 rs5 W h0 e0 h2 e2 hs).mono fun e w' h => ?_
        obtain ⟨v1, v2, rfl, h1, h2, hb⟩ := h
        obtain ⟨A1, c1, rfl, k1, r1⟩ := AR_of_S h1 (Nat.le_refl _)
        obtain ⟨A2, c2, rfl, k2, r2⟩ := AR_of_S h2 (Nat.le_refl _)
        exact ⟨A1, c1, A2, c2, rfl, k1, k2, r1, r2, hb⟩
      · intro B0 d0 B2 d2 W h0 e0 h2 e2
        refine (impl_SignMessage.callsG ki B0 d0 l0 a1 B2 d2 l2 q0 q1 rs2 q3 q4 rs5 W h0 e0 h2 e2 hi).mono fun e w' h => ?_
        obtain ⟨m, v1, v2, rfl, hm, h1, h2, hb⟩ := h
        obtain ⟨A1, c1, A2, c2, rfl, rfl, k1, k2, g⟩ := SG_of_S h1 h2 hm (fun k hk => hk.2) (Nat.le_refl _)
        exact ⟨A1, c1, A2, c2, rfl, k1, k2, g, hb⟩
    · exact law_SignMessage_big2 A0 c0 l0 a1 A2 c2 l2 w hlen0 hlen2
  · exact law_SignMessage_big0 A0 c0 l0 a1 A2 c2 l2 w hlen0
end Go.Proofs.Ytchmaojmknfbpaa.Pure
