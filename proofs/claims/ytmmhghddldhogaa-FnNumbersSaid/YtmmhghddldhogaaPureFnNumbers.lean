import Derived.Test.YtmmhghddldhogaaBase
import Derived.Test.YtmmhghddldhogaaSxLawsHelp
import Derived.Test.YtmmhghddldhogaaSxSpecCompareBytes
import Derived.Test.YtmmhghddldhogaaSxImplCompareBytes
import Derived.Test.YtmmhghddldhogaaSxBytesCompare
import Derived.Test.YtmmhghddldhogaaSxImplHexOf
import Derived.Test.YtmmhghddldhogaaSxImplBytesOfHex
import Derived.Lib.Bytes
import Derived.Test.YtmmhghddldhogaaSxSpecL1
import Derived.Test.YtmmhghddldhogaaSxImplSmall
import Derived.Test.YtmmhghddldhogaaSxImplSmall
import Derived.Test.YtmmhghddldhogaaSxSpecL1
import Derived.Test.YtmmhghddldhogaaSxImplPutNumber
import Derived.Test.YtmmhghddldhogaaSxSpecPutNumber
import Derived.Test.YtmmhghddldhogaaSxImplSmall
import Derived.Test.YtmmhghddldhogaaSxSpecL1
import Derived.Test.YtmmhghddldhogaaSxLawsFnNumbers
import Derived.Test.YtmmhghddldhogaaSxLawsHelp
import Derived.Test.YtmmhghddldhogaaSxSpecDrawPutNumber
import Derived.Test.YtmmhghddldhogaaSxSpecDrawCompareBytes
import Derived.Test.YtmmhghddldhogaaSxImplSameBytes
import Derived.Test.YtmmhghddldhogaaSxImplNumberOf
import Derived.Test.YtmmhghddldhogaaSxBytesEqual
/- What the laws' own helpers on byte slices come to: toByteS copies, eqByteS compares, markByteS and heldByteS count alike. For every slice that fits memory. -/
set_option linter.unusedVariables false
namespace Go.Proofs.Ytmmhghddldhogaa.S
open Go.RowKit Go.Proofs.YtmmhghddldhogaaW.PrintWords Go.Proofs.YtmmhghddldhogaaW.PrintLast Go.Proofs.YtmmhghddldhogaaW.PrintMore Go.Proofs.Ytmmhghddldhogaa.Base

theorem toByteS_l0 (l : List Int) (hl : l.length ≤ 281474976710656) : ∀ (d : Nat) (x : List Int) (i : Nat), i + d = l.length → x.length = l.length → (∀ j, j < i → x[j]? = l[j]?) → Ev (fun k => laws_toByteS.l0 k l x (i : Int)) l := by
  intro d
  induction d with
  | zero =>
    intro x i hi hx hj
    refine ev_step (fun k => laws_toByteS.l0.eq_2 _ _ _ _) ?_
    refine ev_neg (by omega) ?_
    rw [fill_all hx (fun j h => hj j (by omega))]
    exact ev_now rfl
  | succ d ih =>
    intro x i hi hx hj
    refine ev_step (fun k => laws_toByteS.l0.eq_2 _ _ _ _) ?_
    refine ev_pos (by omega) ?_
    refine ev_pos (by omega) ?_
    refine ev_pos (by omega) ?_
    rw [w64s (by omega), Int.toNat_natCast]
    exact ih _ (i + 1) (by omega) (by rw [List.length_set]; exact hx) (fill_step (by omega) hx hj)
theorem toByteS_ev (l : List Int) (hl : l.length ≤ 281474976710656) : Ev (fun k => laws_toByteS.f k l) l := by
  unfold laws_toByteS.f
  refine ev_pos (by omega) ?_
  refine ev_pos (by omega) ?_
  exact toByteS_l0 l hl l.length _ 0 (by omega) (by simp) (fun j h => by omega)
theorem eqByteS_l0 (l : List Int) (hl : l.length ≤ 281474976710656) : ∀ (d i : Nat), i + d = l.length → Ev (fun k => laws_eqByteS.l0 k l l (i : Int)) true := by
  intro d
  induction d with
  | zero =>
    intro i hi
    refine ev_step (fun k => laws_eqByteS.l0.eq_2 _ _ _ _) ?_
    refine ev_neg (by omega) ?_
    exact ev_now rfl
  | succ d ih =>
    intro i hi
    refine ev_step (fun k => laws_eqByteS.l0.eq_2 _ _ _ _) ?_
    refine ev_pos (by omega) ?_
    refine ev_pos (by omega) ?_
    refine ev_pos (by omega) ?_
    refine ev_pos rfl ?_
    rw [w64s (by omega)]
    exact ih (i + 1) (by omega)
theorem eqByteS_ev (l : List Int) (hl : l.length ≤ 281474976710656) : Ev (fun k => laws_eqByteS.f k l l) true := by
  unfold laws_eqByteS.f
  refine ev_pos rfl ?_
  exact eqByteS_l0 l hl l.length 0 (by omega)
end Go.Proofs.Ytmmhghddldhogaa.S

/- What the reference's CompareBytes comes to: the order of the first unlike bytes, else of the lengths. For all slices that fit memory. -/
set_option linter.unusedVariables false
namespace Go.Proofs.Ytmmhghddldhogaa.S
open Go.RowKit Go.Proofs.YtmmhghddldhogaaW.PrintWords Go.Proofs.YtmmhghddldhogaaW.PrintLast Go.Proofs.YtmmhghddldhogaaW.PrintMore Go.Proofs.Ytmmhghddldhogaa.Base

def cmpL : List Int → List Int → Int
  | [], [] => 0
  | [], _ :: _ => -1
  | _ :: _, [] => 1
  | x :: a, y :: b => if x < y then -1 else if y < x then 1 else cmpL a b
theorem cmpL_zero : ∀ a b : List Int, cmpL a b = 0 ↔ a = b
  | [], [] => by simp [cmpL]
  | [], _ :: _ => by simp [cmpL]
  | _ :: _, [] => by simp [cmpL]
  | x :: a, y :: b => by
    have ih := cmpL_zero a b
    unfold cmpL
    by_cases h : x < y
    · rw [if_pos h]; simp; intro e; omega
    · rw [if_neg h]
      by_cases h2 : y < x
      · rw [if_pos h2]; simp; intro e; omega
      · rw [if_neg h2, ih]
        have : x = y := by omega
        simp [this]
theorem compareBytes_l0 (a b : List Int) (ha : a.length ≤ 281474976710656) (hb : b.length ≤ 281474976710656) : ∀ (d i : Nat), i + d = a.length → i ≤ b.length → Ev (fun k => spec_CompareBytes.l0 k a b (i : Int)) (cmpL (a.drop i) (b.drop i)) := by
  intro d
  induction d with
  | zero =>
    intro i hi hj
    rw [List.drop_of_length_le (l := a) (by omega)]
    refine ev_step (fun k => spec_CompareBytes.l0.eq_2 _ _ _ _) (ev_neg (by omega) ?_)
    refine ev_step (fun k => spec_CompareBytes.j1.eq_2 _ _ _ _ _) (ev_neg (by simp) ?_)
    by_cases h : (a.length : Int) < (b.length : Int)
    · refine ev_pos h ?_
      rw [List.drop_eq_getElem_cons (l := b) (i := i) (by omega)]
      exact ev_now rfl
    · refine ev_neg h (ev_neg (by omega) ?_)
      rw [List.drop_of_length_le (l := b) (by omega)]
      exact ev_now rfl
  | succ d ih =>
    intro i hi hj
    refine ev_step (fun k => spec_CompareBytes.l0.eq_2 _ _ _ _) (ev_pos (by omega) ?_)
    refine ev_step (fun k => spec_CompareBytes.j1.eq_2 _ _ _ _ _) ?_
    rw [List.drop_eq_getElem_cons (l := a) (i := i) (by omega)]
    by_cases h : (i : Int) < (b.length : Int)
    · refine ev_pos (by simpa using h) (ev_pos (by omega) (ev_pos (by omega) (ev_pos h ?_)))
      rw [List.drop_eq_getElem_cons (l := b) (i := i) (by omega), rd_nat a i (by omega), rd_nat b i (by omega)]
      unfold cmpL
      by_cases h1 : a[i] < b[i]
      · rw [if_pos h1]; exact ev_pos h1 (ev_now rfl)
      · rw [if_neg h1]
        refine ev_neg h1 ?_
        by_cases h2 : b[i] < a[i]
        · rw [if_pos h2]; exact ev_pos h2 (ev_now rfl)
        · rw [if_neg h2]
          refine ev_neg h2 ?_
          rw [w64s (by omega)]
          exact ih (i + 1) (by omega) (by omega)
    · refine ev_neg (by simpa using h) ?_
      rw [List.drop_of_length_le (l := b) (by omega)]
      exact ev_neg (by omega) (ev_pos (by omega) (ev_now rfl))
theorem compareBytes_ev (a b : List Int) (ha : a.length ≤ 281474976710656) (hb : b.length ≤ 281474976710656) : Ev (fun k => spec_CompareBytes.f k a b) (cmpL a b) :=
  compareBytes_l0 a b ha hb a.length 0 (by omega) (by omega)
end Go.Proofs.Ytmmhghddldhogaa.S

/- The program's CompareBytes: the order of the first unlike bytes, else of the lengths. -/
set_option linter.unusedVariables false
namespace Go.Proofs.Ytmmhghddldhogaa.S
open Go.RowKit Go.Proofs.YtmmhghddldhogaaW.PrintWords Go.Proofs.YtmmhghddldhogaaW.PrintLast Go.Proofs.YtmmhghddldhogaaW.PrintMore Go.Proofs.Ytmmhghddldhogaa.Base

theorem cmpL_v : ∀ a b : List Int, bytes_Compare.v a b = cmpL a b
  | [], [] => rfl
  | [], _ :: _ => rfl
  | _ :: _, [] => rfl
  | x :: a, y :: b => by
    unfold bytes_Compare.v cmpL
    rw [cmpL_v a b]
theorem byt_all {l : List Int} (h : Byt l) : (l.all fun x => decide (0 ≤ x) && decide (x ≤ 255)) = true := by
  rw [List.all_eq_true]
  intro x hx
  have := h x hx
  simp [this.1, this.2]
theorem impl_compare_eq {a b : List Int} (ha : Byt a) (hb : Byt b) : impl_CompareBytes.f a b = some (cmpL a b) := by
  unfold impl_CompareBytes.f bytes_Compare.f
  rw [byt_all ha, byt_all hb]
  simp [cmpL_v]
end Go.Proofs.Ytmmhghddldhogaa.S

/- Bytes as digits of base 16: what the program's HexOf comes to. For every slice of at most 2^20 bytes. -/
set_option linter.unusedVariables false
namespace Go.Proofs.Ytmmhghddldhogaa.S
open Go.RowKit Go.Proofs.YtmmhghddldhogaaW.PrintWords Go.Proofs.YtmmhghddldhogaaW.PrintLast Go.Proofs.YtmmhghddldhogaaW.PrintMore Go.Proofs.Ytmmhghddldhogaa.Base

def hexTab : ByteArray := ⟨#[48, 49, 50, 51, 52, 53, 54, 55, 56, 57, 97, 98, 99, 100, 101, 102]⟩
def hexL : List Int → List Int
  | [] => []
  | c :: l => bt hexTab (c / 16) :: bt hexTab (c % 16) :: hexL l
theorem hexL_length : ∀ l : List Int, (hexL l).length = 2 * l.length
  | [] => rfl
  | c :: l => by
    have := hexL_length l
    simp only [hexL, List.length_cons]
    omega
theorem hexL_byt : ∀ l : List Int, Byt (hexL l)
  | [] => byt_nil
  | c :: l => by
    intro x hx
    simp only [hexL, List.mem_cons] at hx
    rcases hx with rfl | rfl | hx
    · exact bt_range _ _
    · exact bt_range _ _
    · exact hexL_byt l x hx
theorem impl_hexOf_l0 (l : List Int) (hb : Byt l) (hl : l.length ≤ 1048576) : ∀ (d i : Nat) (y : List Int), i + d = l.length → y.length = 2 * i → Ev (fun k => impl_HexOf.l0 k y l (l.length : Int) (i : Int)) (strOfNums (y ++ hexL (l.drop i))) := by
  intro d
  induction d with
  | zero =>
    intro i y hi hy
    rw [List.drop_of_length_le (by omega)]
    exact ev_step (fun k => impl_HexOf.l0.eq_2 _ _ _ _ _) (ev_neg (by omega) (ev_now (by simp [hexL])))
  | succ d ih =>
    intro i y hi hy
    have hr := byt_rd hb (i : Int)
    rw [List.drop_eq_getElem_cons (by omega), ← rd_nat l i (by omega)]
    generalize hc : rd l (i : Int) = c at hr
    refine ev_step (fun k => impl_HexOf.l0.eq_2 _ _ _ _ _) ?_
    refine ev_pos (by omega) (ev_pos (by omega) (ev_pos (by omega) ?_))
    rw [hc, and15 hr.1 hr.2]
    refine ev_pos (by omega) (ev_pos (by omega) (ev_pos (by omega) (ev_pos (by omega) ?_)))
    refine ev_bind (ev_now rfl) ?_
    refine ev_pos (by simp only [List.length_cons, List.length_nil]; omega) ?_
    rw [w64s (by omega)]
    refine ev_eq (ih (i + 1) _ (by omega) (by simp; omega)) ?_
    rw [List.append_assoc]
    rfl
theorem impl_hexOf_ev (l : List Int) (hb : Byt l) (hl : l.length ≤ 1048576) : Ev (fun k => impl_HexOf.f k l) (strOfNums (hexL l)) :=
  ev_eq (impl_hexOf_l0 l hb hl l.length 0 [] (by omega) rfl) rfl
end Go.Proofs.Ytmmhghddldhogaa.S

/- Bytes out of digits of base 16: the program's BytesOfHex comes to what a plain function of the text says. For every text. -/
set_option linter.unusedVariables false
namespace Go.Proofs.Ytmmhghddldhogaa.S
open Go.RowKit Go.Proofs.YtmmhghddldhogaaW.PrintWords Go.Proofs.YtmmhghddldhogaaW.PrintLast Go.Proofs.YtmmhghddldhogaaW.PrintMore Go.Proofs.Ytmmhghddldhogaa.Base

/-- What a byte stands for as a digit; the digit's own byte again. -/
def digV (c : Int) : Int := if c ≥ 97 then (c - 87) % 16 else (c - 48) % 16
def good (c : Int) : Prop := bt hexTab (digV c) = c
instance (c : Int) : Decidable (good c) := inferInstanceAs (Decidable (_ = _))
theorem digV_range (c : Int) : 0 ≤ digV c ∧ digV c < 16 := by
  unfold digV
  split <;> omega
def decV : List Int → List Int
  | a :: b :: r => (16 * digV a + digV b) :: decV r
  | _ => []
def hexGood : List Int → Bool
  | [] => true
  | [_] => false
  | a :: b :: r => decide (good a) && (decide (good b) && hexGood r)
theorem decV_length : ∀ t : List Int, (decV t).length ≤ t.length
  | [] => by simp [decV]
  | [_] => by simp [decV]
  | a :: b :: r => by
    have := decV_length r
    simp only [decV, List.length_cons]
    omega
theorem decV_byt : ∀ t : List Int, Byt (decV t)
  | [] => byt_nil
  | [_] => byt_nil
  | a :: b :: r => by
    intro x hx
    simp only [decV, List.mem_cons] at hx
    rcases hx with rfl | hx
    · have := digV_range a
      have := digV_range b
      omega
    · exact decV_byt r x hx
theorem hexL_decV : ∀ t : List Int, hexL (decV t) = t ↔ hexGood t = true
  | [] => by simp [decV, hexL, hexGood]
  | [_] => by simp [decV, hexL, hexGood]
  | a :: b :: r => by
    have ih := hexL_decV r
    have ha := digV_range a
    have hb := digV_range b
    have e1 : (16 * digV a + digV b) / 16 = digV a := by omega
    have e2 : (16 * digV a + digV b) % 16 = digV b := by omega
    simp only [decV, hexL, hexGood, e1, e2, List.cons.injEq, Bool.and_eq_true, decide_eq_true_iff]
    rw [ih]
    rfl
theorem or16 {p q : Int} (h0 : 0 ≤ p) (h1 : p < 16) (h2 : 0 ≤ q) (h3 : q < 16) : Go.bits .or .u8 (p * 16) q = 16 * p + q := by
  obtain ⟨n, rfl⟩ := Int.eq_ofNat_of_zero_le h0
  obtain ⟨m, rfl⟩ := Int.eq_ofNat_of_zero_le h2
  have h := bits_or_u8 (x := n * 16) (y := m) (by omega) (by omega)
  have e : n * 16 ||| m = n * 16 + m := by
    have := Nat.shiftLeft_add_eq_or_of_lt (i := 4) (b := m) (by omega) n
    rw [Nat.shiftLeft_eq] at this
    exact this.symm
  rw [e] at h
  rw [show ((n * 16 : Nat) : Int) = (n : Int) * 16 from by omega] at h
  rw [h]
  omega
/-- The program's digit: its last four bits. -/
theorem hexDigit_eq {c : Int} (h0 : 0 ≤ c) (h1 : c ≤ 255) : ∃ v, impl_hexDigit.f c = some v ∧ 0 ≤ v ∧ v ≤ 255 ∧ v % 16 = digV c := by
  unfold impl_hexDigit.f digV
  by_cases h : c ≥ 97
  · rw [if_pos h, if_pos h]
    exact ⟨_, rfl, by omega, by omega, by omega⟩
  · rw [if_neg h, if_neg h]
    exact ⟨_, rfl, by omega, by omega, by omega⟩
theorem bt_bytesOf (s : ByteArray) (i : Nat) (h : i < s.size) : ∃ hl : i < (Go.Proofs.YtmmhghddldhogaaW.PrintWords.bytesOf s).length, (Go.Proofs.YtmmhghddldhogaaW.PrintWords.bytesOf s)[i] = bt s (i : Int) := by
  have hl : i < (Go.Proofs.YtmmhghddldhogaaW.PrintWords.bytesOf s).length := by rw [Go.Proofs.YtmmhghddldhogaaW.PrintWords.bytesOf_length]; exact h
  refine ⟨hl, ?_⟩
  rw [← rd_bytesOf, rd_nat _ i hl]
theorem strOfNums_bytesOf (s : ByteArray) : strOfNums (Go.Proofs.YtmmhghddldhogaaW.PrintWords.bytesOf s) = s := by
  apply ByteArray.ext
  apply Array.ext'
  simp only [strOfNums, Go.Proofs.YtmmhghddldhogaaW.PrintWords.bytesOf, List.map_map]
  rw [List.map_congr_left (g := id)]
  · simp
  · intro b hb
    simp
theorem bytesOf_byt (s : ByteArray) : Byt (Go.Proofs.YtmmhghddldhogaaW.PrintWords.bytesOf s) := by
  intro x hx
  unfold Go.Proofs.YtmmhghddldhogaaW.PrintWords.bytesOf at hx
  obtain ⟨b, _, rfl⟩ := List.mem_map.1 hx
  have := b.toNat_lt
  omega
theorem toList_iff {a b : List Int} (ha : Byt a) (hb : Byt b) : (strOfNums a).toList = (strOfNums b).toList ↔ a = b := by
  rw [Lib.strOfNums_toList, Lib.strOfNums_toList]
  constructor
  · intro h
    refine strOfNums_inj ha hb ?_
    exact congrArg List.toArray h
  · intro h; rw [h]
/-- What is told of a text's bytes. -/
def bytesOfHexV (t : List Int) : Int × List Int := if t.length > 4000 then (2, []) else if hexGood t = true then (0, decV t) else (5, [])
theorem bytesOfHexV_length (t : List Int) : (bytesOfHexV t).2.length ≤ 4000 := by
  unfold bytesOfHexV
  have := decV_length t
  split
  · simp
  · split
    · simp only; omega
    · simp
theorem impl_bytesOfHex_l0 (s : ByteArray) (hs : s.size ≤ 4000) : ∀ (d i : Nat) (y : List Int), i ≤ s.size → s.size < i + 2 * d → Byt y → y.length ≤ i → y ++ decV ((Go.Proofs.YtmmhghddldhogaaW.PrintWords.bytesOf s).drop i) = decV (Go.Proofs.YtmmhghddldhogaaW.PrintWords.bytesOf s) → Ev (fun k => impl_BytesOfHex.l0 k s y (i : Int)) (if hexGood (Go.Proofs.YtmmhghddldhogaaW.PrintWords.bytesOf s) = true then (0, decV (Go.Proofs.YtmmhghddldhogaaW.PrintWords.bytesOf s)) else (5, [])) := by
  intro d
  induction d with
  | zero => intro i y hi hd; omega
  | succ d ih =>
    intro i y hi hd hy hyl he
    have hbl : (Go.Proofs.YtmmhghddldhogaaW.PrintWords.bytesOf s).length = s.size := Go.Proofs.YtmmhghddldhogaaW.PrintWords.bytesOf_length s
    have e1 : wrap64 ((i : Int) + 1) = ((i + 1 : Nat) : Int) := w64s (by omega)
    refine ev_step (fun k => impl_BytesOfHex.l0.eq_2 _ _ _ _) ?_
    rw [e1]
    by_cases h : i + 1 < s.size
    · refine ev_pos (by omega) (ev_pos (by omega) (ev_pos (by omega) ?_))
      obtain ⟨hl0, g0⟩ := bt_bytesOf s i (by omega)
      obtain ⟨hl1, g1⟩ := bt_bytesOf s (i + 1) (by omega)
      have r0 := bt_range s (i : Int)
      have r1 := bt_range s ((i + 1 : Nat) : Int)
      obtain ⟨v0, f0, a0, b0, m0⟩ := hexDigit_eq r0.1 r0.2
      obtain ⟨v1, f1, a1, b1, m1⟩ := hexDigit_eq r1.1 r1.2
      refine ev_bind (ev_now f0) (ev_pos (by omega) (ev_bind (ev_now f1) (ev_pos (by omega) ?_)))
      rw [and15 a1 b1, show (v0 * 16) % 256 = (v0 % 16) * 16 by omega, or16 (by omega) (by omega) (by omega) (by omega), m0, m1, show wrap64 ((i : Int) + 2) = ((i + 2 : Nat) : Int) by unfold wrap64; omega]
      have hd0 := digV_range (bt s (i : Int))
      have hd1 := digV_range (bt s ((i + 1 : Nat) : Int))
      refine ih (i + 2) _ (by omega) (by omega) (byt_append hy (byt_one (by omega) (by omega))) (by simp; omega) ?_
      rw [← he, List.drop_eq_getElem_cons hl0, List.drop_eq_getElem_cons hl1, g0, g1]
      simp [decV]
    · refine ev_neg (by omega) ?_
      have hz : decV ((Go.Proofs.YtmmhghddldhogaaW.PrintWords.bytesOf s).drop i) = [] := by
        have hlen : ((Go.Proofs.YtmmhghddldhogaaW.PrintWords.bytesOf s).drop i).length ≤ 1 := by rw [List.length_drop]; omega
        match hq : (Go.Proofs.YtmmhghddldhogaaW.PrintWords.bytesOf s).drop i with
        | [] => rfl
        | [_] => rfl
        | a :: b :: r => rw [hq] at hlen; simp at hlen
      rw [hz, List.append_nil] at he
      subst he
      have hlen := decV_length (Go.Proofs.YtmmhghddldhogaaW.PrintWords.bytesOf s)
      refine ev_bind (impl_hexOf_ev _ hy (by omega)) ?_
      have hi := toList_iff (hexL_byt (decV (Go.Proofs.YtmmhghddldhogaaW.PrintWords.bytesOf s))) (bytesOf_byt s)
      rw [strOfNums_bytesOf, hexL_decV] at hi
      by_cases g : hexGood (Go.Proofs.YtmmhghddldhogaaW.PrintWords.bytesOf s) = true
      · rw [if_pos g]; exact ev_pos (hi.2 g) (ev_now rfl)
      · rw [if_neg g]; exact ev_neg (fun h => g (hi.1 h)) (ev_now rfl)
theorem impl_bytesOfHex_ev (s : ByteArray) (hs : s.size ≤ 140737488351232) : Ev (fun k => impl_BytesOfHex.f k s) (bytesOfHexV (Go.Proofs.YtmmhghddldhogaaW.PrintWords.bytesOf s)) := by
  unfold impl_BytesOfHex.f bytesOfHexV
  rw [Go.Proofs.YtmmhghddldhogaaW.PrintWords.bytesOf_length]
  by_cases h : s.size > 4000
  · rw [if_pos h]; exact ev_pos (by omega) (ev_now rfl)
  · rw [if_neg h]
    exact ev_neg (by omega) (impl_bytesOfHex_l0 s (by omega) (s.size + 1) 0 [] (by omega) (by omega) byt_nil (by simp) rfl)
end Go.Proofs.Ytmmhghddldhogaa.S

/- A number as seven bytes: the program's number and the reference's l1Put come to the same bytes. For every number. -/
set_option linter.unusedVariables false
namespace Go.Proofs.Ytmmhghddldhogaa.S
open Go.RowKit Go.Proofs.YtmmhghddldhogaaW.PrintWords Go.Proofs.YtmmhghddldhogaaW.PrintLast Go.Proofs.YtmmhghddldhogaaW.PrintMore Go.Proofs.Ytmmhghddldhogaa.Base

/-- The seven bytes of a number, the highest first. -/
def num7 (n : Int) : List Int := [n / 281474976710656 % 256, n / 1099511627776 % 256, n / 4294967296 % 256, n / 16777216 % 256, n / 65536 % 256, n / 256 % 256, n % 256]
theorem num7_byt (n : Int) : Byt (num7 n) := by
  intro x hx
  simp only [num7, List.mem_cons, List.not_mem_nil, or_false] at hx
  rcases hx with rfl | rfl | rfl | rfl | rfl | rfl | rfl <;> omega
theorem num7_length (n : Int) : (num7 n).length = 7 := rfl
theorem l1Put_ev (n : Int) : Ev (fun k => spec_l1Put.f k n) (num7 n) := by
  unfold spec_l1Put.f
  refine ev_step (fun k => spec_l1Put.l0.eq_2 _ _ _ _) (ev_pos (by decide +kernel) (ev_pos (by decide +kernel) (ev_pos (by simp) ?_)))
  rw [show wrap64 (6 - 1) = 5 from by decide +kernel]
  refine ev_step (fun k => spec_l1Put.l0.eq_2 _ _ _ _) (ev_pos (by decide +kernel) (ev_pos (by decide +kernel) (ev_pos (by simp) ?_)))
  rw [show wrap64 (5 - 1) = 4 from by decide +kernel]
  refine ev_step (fun k => spec_l1Put.l0.eq_2 _ _ _ _) (ev_pos (by decide +kernel) (ev_pos (by decide +kernel) (ev_pos (by simp) ?_)))
  rw [show wrap64 (4 - 1) = 3 from by decide +kernel]
  refine ev_step (fun k => spec_l1Put.l0.eq_2 _ _ _ _) (ev_pos (by decide +kernel) (ev_pos (by decide +kernel) (ev_pos (by simp) ?_)))
  rw [show wrap64 (3 - 1) = 2 from by decide +kernel]
  refine ev_step (fun k => spec_l1Put.l0.eq_2 _ _ _ _) (ev_pos (by decide +kernel) (ev_pos (by decide +kernel) (ev_pos (by simp) ?_)))
  rw [show wrap64 (2 - 1) = 1 from by decide +kernel]
  refine ev_step (fun k => spec_l1Put.l0.eq_2 _ _ _ _) (ev_pos (by decide +kernel) (ev_pos (by decide +kernel) (ev_pos (by simp) ?_)))
  rw [show wrap64 (1 - 1) = 0 from by decide +kernel]
  refine ev_step (fun k => spec_l1Put.l0.eq_2 _ _ _ _) (ev_pos (by decide +kernel) (ev_pos (by decide +kernel) (ev_pos (by simp) ?_)))
  rw [show wrap64 (0 - 1) = -1 from by decide +kernel]
  refine ev_step (fun k => spec_l1Put.l0.eq_2 _ _ _ _) (ev_neg (by decide +kernel) (ev_now ?_))
  rw [show IntKind.u64.wrap (wrap64 (8 * 6)) = 48 from by decide +kernel, show IntKind.u64.wrap (wrap64 (8 * 5)) = 40 from by decide +kernel, show IntKind.u64.wrap (wrap64 (8 * 4)) = 32 from by decide +kernel, show IntKind.u64.wrap (wrap64 (8 * 3)) = 24 from by decide +kernel, show IntKind.u64.wrap (wrap64 (8 * 2)) = 16 from by decide +kernel, show IntKind.u64.wrap (wrap64 (8 * 1)) = 8 from by decide +kernel, show IntKind.u64.wrap (wrap64 (8 * 0)) = 0 from by decide +kernel]
  simp [shr, num7, IntKind.bits]
theorem number_ev (n : Int) : Ev (fun k => impl_number.f k n) (num7 n) := by
  unfold impl_number.f
  refine ev_pos (by omega) ?_
  refine ev_step (fun k => impl_number.l0.eq_2 _ _ _ _) (ev_pos (by decide +kernel) (ev_pos (by decide +kernel) (ev_pos (by simp) ?_)))
  rw [show wrap64 (6 - 1) = 5 from by decide +kernel]
  refine ev_step (fun k => impl_number.l0.eq_2 _ _ _ _) (ev_pos (by decide +kernel) (ev_pos (by decide +kernel) (ev_pos (by simp) ?_)))
  rw [show wrap64 (5 - 1) = 4 from by decide +kernel]
  refine ev_step (fun k => impl_number.l0.eq_2 _ _ _ _) (ev_pos (by decide +kernel) (ev_pos (by decide +kernel) (ev_pos (by simp) ?_)))
  rw [show wrap64 (4 - 1) = 3 from by decide +kernel]
  refine ev_step (fun k => impl_number.l0.eq_2 _ _ _ _) (ev_pos (by decide +kernel) (ev_pos (by decide +kernel) (ev_pos (by simp) ?_)))
  rw [show wrap64 (3 - 1) = 2 from by decide +kernel]
  refine ev_step (fun k => impl_number.l0.eq_2 _ _ _ _) (ev_pos (by decide +kernel) (ev_pos (by decide +kernel) (ev_pos (by simp) ?_)))
  rw [show wrap64 (2 - 1) = 1 from by decide +kernel]
  refine ev_step (fun k => impl_number.l0.eq_2 _ _ _ _) (ev_pos (by decide +kernel) (ev_pos (by decide +kernel) (ev_pos (by simp) ?_)))
  rw [show wrap64 (1 - 1) = 0 from by decide +kernel]
  refine ev_step (fun k => impl_number.l0.eq_2 _ _ _ _) (ev_pos (by decide +kernel) (ev_pos (by decide +kernel) (ev_pos (by simp) ?_)))
  rw [show wrap64 (0 - 1) = -1 from by decide +kernel]
  refine ev_step (fun k => impl_number.l0.eq_2 _ _ _ _) (ev_neg (by decide +kernel) (ev_now ?_))
  simp [num7, List.replicate]
  omega
end Go.Proofs.Ytmmhghddldhogaa.S

/- Is a number in its bounds: the program's and the reference's answer. -/
set_option linter.unusedVariables false
namespace Go.Proofs.Ytmmhghddldhogaa.S
open Go.RowKit Go.Proofs.YtmmhghddldhogaaW.PrintWords Go.Proofs.YtmmhghddldhogaaW.PrintLast Go.Proofs.YtmmhghddldhogaaW.PrintMore Go.Proofs.Ytmmhghddldhogaa.Base

theorem in_eq (a b c : Int) : impl_in.f a b c = some (decide (b ≤ a ∧ a ≤ c)) := by
  unfold impl_in.f
  by_cases h : b ≤ a <;> simp [h]
theorem l1In_eq (a b c : Int) : spec_l1In.f a b c = some (decide (b ≤ a ∧ a ≤ c)) := by
  unfold spec_l1In.f
  by_cases h : b ≤ a <;> simp [h]
end Go.Proofs.Ytmmhghddldhogaa.S

/- Numbers that are put: the program's PutNumber and the reference's. -/
set_option linter.unusedVariables false
namespace Go.Proofs.Ytmmhghddldhogaa.S
open Go.RowKit Go.Proofs.YtmmhghddldhogaaW.PrintWords Go.Proofs.YtmmhghddldhogaaW.PrintLast Go.Proofs.YtmmhghddldhogaaW.PrintMore Go.Proofs.Ytmmhghddldhogaa.Base

theorem isNumber_eq (n : Int) : impl_isNumber.f n = some (decide (0 ≤ n ∧ n ≤ 72057594037927935)) := by
  unfold impl_isNumber.f impl_in.f
  by_cases h : 0 ≤ n <;> simp [h]
def putNumberV (n : Int) : Int × List Int := if 0 ≤ n ∧ n ≤ 72057594037927935 then (0, num7 n) else (3, [])
theorem spec_putNumber_ev (n : Int) : Ev (fun k => spec_PutNumber.f k n) (putNumberV n) := by
  unfold spec_PutNumber.f putNumberV
  refine ev_bind (ev_now (l1In_eq _ _ _)) ?_
  by_cases h : 0 ≤ n ∧ n ≤ 72057594037927935
  · rw [if_pos h]; exact ev_pos (decide_eq_true h) (ev_bind (l1Put_ev n) (ev_now rfl))
  · rw [if_neg h]; exact ev_neg (by simpa using h) (ev_now rfl)
theorem impl_putNumber_ev (n : Int) : Ev (fun k => impl_PutNumber.f k n) (putNumberV n) := by
  unfold impl_PutNumber.f putNumberV
  refine ev_bind (ev_now (isNumber_eq _)) ?_
  by_cases h : 0 ≤ n ∧ n ≤ 72057594037927935
  · rw [if_pos h]; exact ev_pos (decide_eq_true h) (ev_bind (number_ev n) (ev_now rfl))
  · rw [if_neg h]; exact ev_neg (by simpa using h) (ev_now rfl)
theorem putNumberV_length (n : Int) : (putNumberV n).2.length ≤ 7 := by
  unfold putNumberV
  split
  · exact Nat.le_refl _
  · simp
end Go.Proofs.Ytmmhghddldhogaa.S

/- What the reference's draws come to, as far as the laws need it: each ends, in bounds. For every code that fits. -/
set_option linter.unusedVariables false
namespace Go.Proofs.Ytmmhghddldhogaa.S
open Go.RowKit Go.Proofs.YtmmhghddldhogaaW.PrintWords Go.Proofs.YtmmhghddldhogaaW.PrintLast Go.Proofs.YtmmhghddldhogaaW.PrintMore Go.Proofs.Ytmmhghddldhogaa.Base

theorem tmod_range {a n : Int} (h0 : 0 ≤ a) (h1 : 1 ≤ n) : 0 ≤ Int.tmod a n ∧ Int.tmod a n < n := by
  rw [Int.tmod_eq_emod_of_nonneg h0]
  exact ⟨Int.emod_nonneg _ (by omega), Int.emod_lt_of_pos _ (by omega)⟩
theorem next_ok {c : List Int} (hc : Byt c) {at_ : Int} (h0 : 0 ≤ at_) (h1 : at_ ≤ 1099511627776) (n : Int) : ∃ v, spec_l1Next.f c at_ n = some (v, at_ + 1) ∧ 0 ≤ v ∧ (v < n ∨ v = 0) := by
  unfold spec_l1Next.f
  rw [w64 (n := at_ + 1) (by omega) (by omega), w64 (n := at_ + 1 - 1) (by omega) (by omega), show at_ + 1 - 1 = at_ by omega]
  by_cases hn : n < 1
  · exact ⟨0, by rw [if_pos hn], by omega, .inr rfl⟩
  rw [if_neg hn]
  by_cases hl : (c.length : Int) = 0
  · rw [if_pos hl, if_neg (by omega), w64 (n := at_ * 7) (by omega) (by omega)]
    have := tmod_range (a := at_ * 7) (n := n) (by omega) (by omega)
    exact ⟨_, rfl, this.1, .inl this.2⟩
  rw [if_neg hl]
  have hp := tmod_range (a := at_) (n := (c.length : Int)) h0 (by omega)
  have hp2 := tmod_range (a := at_ + 1) (n := (c.length : Int)) (by omega) (by omega)
  have hq : 0 ≤ Int.tdiv at_ (c.length : Int) ∧ Int.tdiv at_ (c.length : Int) ≤ at_ := by
    rw [Int.tdiv_eq_ediv_of_nonneg h0]
    exact ⟨Int.ediv_nonneg h0 (by omega), Int.ediv_le_self _ h0⟩
  rw [if_pos hp.1, if_pos hp.2]
  have hb1 := byt_rd hc (Int.tmod at_ (c.length : Int))
  generalize rd c (Int.tmod at_ (c.length : Int)) = b1 at *
  generalize Int.tdiv at_ (c.length : Int) = q at *
  rw [w64 (n := b1) (by omega) (by omega), w64 (n := q) (by omega) (by omega), w64 (n := q * 37) (by omega) (by omega), w64 (n := b1 + q * 37) (by omega) (by omega)]
  by_cases hg : n > 200
  · rw [if_pos hg, w64 (n := at_ + 1) (by omega) (by omega), if_pos hp2.1, if_pos hp2.2, if_neg (by omega)]
    have hb2 := byt_rd hc (Int.tmod (at_ + 1) (c.length : Int))
    generalize rd c (Int.tmod (at_ + 1) (c.length : Int)) = b2 at *
    rw [w64 (n := b2) (by omega) (by omega), w64 (n := b2 * 13) (by omega) (by omega), w64 (n := (b1 + q * 37) * 251) (by omega) (by omega), w64 (n := (b1 + q * 37) * 251 + b2 * 13) (by omega) (by omega), w64 (n := (b1 + q * 37) * 251 + b2 * 13 + at_) (by omega) (by omega)]
    have := tmod_range (a := (b1 + q * 37) * 251 + b2 * 13 + at_) (n := n) (by omega) (by omega)
    exact ⟨_, rfl, this.1, .inl this.2⟩
  · rw [if_neg hg, if_neg (by omega)]
    have := tmod_range (a := b1 + q * 37) (n := n) (by omega) (by omega)
    exact ⟨_, rfl, this.1, .inl this.2⟩
theorem some_l0 {c : List Int} (hc : Byt c) : ∀ (n : Nat) (x : List Int) (at_ : Int), 0 ≤ at_ → at_ + n ≤ 1099511627776 → Byt x → x.length + n ≤ 100000000 → ∃ r, Ev (fun k => spec_l1Some.l0 k (n : Int) x c at_) (r, at_ + n) ∧ Byt r ∧ r.length = x.length + n := by
  intro n
  induction n with
  | zero =>
    intro x at_ h0 h1 hx hl
    exact ⟨x, ev_step (fun k => spec_l1Some.l0.eq_2 _ _ _ _ _) (ev_neg (by omega) (ev_now (by simp))), hx, by omega⟩
  | succ n ih =>
    intro x at_ h0 h1 hx hl
    obtain ⟨v, hv, hv0, _⟩ := next_ok hc h0 (by omega) 256
    obtain ⟨r, hr, hb, hrl⟩ := ih (x ++ [v % 256]) (at_ + 1) (by omega) (by omega) (byt_append hx (byt_one (by omega) (by omega))) (by simp; omega)
    refine ⟨r, ev_step (fun k => spec_l1Some.l0.eq_2 _ _ _ _ _) (ev_pos (by omega) (ev_bind (ev_now hv) (ev_pos (by omega) ?_))), hb, by rw [hrl]; simp; omega⟩
    rw [w64 (by omega) (by omega), show ((n + 1 : Nat) : Int) - 1 = (n : Int) by omega]
    rw [show at_ + ((n + 1 : Nat) : Int) = at_ + 1 + (n : Int) by omega]
    exact hr
theorem some_ok {c : List Int} (hc : Byt c) (n at_ : Int) (h0 : 0 ≤ at_) (h1 : at_ ≤ 1000000000) (hn : n ≤ 100000) : ∃ r a, Ev (fun k => spec_l1Some.f k c at_ n) (r, a) ∧ Byt r ∧ r.length = n.toNat ∧ at_ ≤ a ∧ a ≤ at_ + 100000 := by
  by_cases h : 0 ≤ n
  · obtain ⟨r, hr, hb, hl⟩ := some_l0 hc n.toNat [] at_ h0 (by omega) byt_nil (by simp; omega)
    refine ⟨r, at_ + n.toNat, ?_, hb, by rw [hl]; simp, by omega, by omega⟩
    unfold spec_l1Some.f
    rw [Int.toNat_of_nonneg h] at hr
    rw [Int.toNat_of_nonneg h]
    exact hr
  · refine ⟨[], at_, ?_, byt_nil, by simp; omega, by omega, by omega⟩
    unfold spec_l1Some.f
    exact ev_step (fun k => spec_l1Some.l0.eq_2 _ _ _ _ _) (ev_neg (by omega) (ev_now rfl))
theorem pick_ok {c : List Int} (hc : Byt c) {at_ : Int} (h0 : 0 ≤ at_) (h1 : at_ ≤ 1099511627776) (L : List Int) (hL : 0 < L.length) : ∃ v, spec_l1Pick.f c at_ L = some (v, at_ + 1) ∧ v ∈ L := by
  obtain ⟨v, hv, hv0, hv1⟩ := next_ok hc h0 h1 (L.length : Int)
  unfold spec_l1Pick.f
  rw [hv, Option.bind_some, if_pos hv0, if_pos (by show v < _; omega)]
  refine ⟨rd L v, rfl, ?_⟩
  obtain ⟨j, rfl⟩ := Int.eq_ofNat_of_zero_le hv0
  rw [rd_nat L j (by omega)]
  exact List.getElem_mem _
end Go.Proofs.Ytmmhghddldhogaa.S

/- Numbers and bytes go there and back: the law FnNumbers. No condition. -/
set_option linter.unusedVariables false
namespace Go.Proofs.Ytmmhghddldhogaa.S
open Go.RowKit Go.Proofs.YtmmhghddldhogaaW.PrintWords Go.Proofs.YtmmhghddldhogaaW.PrintLast Go.Proofs.YtmmhghddldhogaaW.PrintMore Go.Proofs.Ytmmhghddldhogaa.Base

theorem lw_same (l : List Int) : laws_lwBytes.f l l = some true := by
  unfold laws_lwBytes.f
  rw [beq_self_eq_true]
theorem byt_setv {a : List Int} (ha : Byt a) (i : Nat) {v : Int} (h0 : 0 ≤ v) (h1 : v ≤ 255) : Byt (a.set i v) := fun x hx => by
  rcases List.mem_or_eq_of_mem_set hx with h | h
  · exact ha x h
  · rw [h]; exact ⟨h0, h1⟩
theorem cmpL_swap : ∀ a b : List Int, cmpL a b = - cmpL b a ∧ -1 ≤ cmpL b a ∧ cmpL b a ≤ 1
  | [], [] => by simp [cmpL]
  | [], _ :: _ => by simp [cmpL]
  | _ :: _, [] => by simp [cmpL]
  | x :: a, y :: b => by
    have ih := cmpL_swap a b
    unfold cmpL
    by_cases h : x < y
    · rw [if_pos h, if_neg (show ¬ y < x by omega), if_pos h]
      omega
    · rw [if_neg h]
      by_cases h2 : y < x
      · rw [if_pos h2, if_pos h2]
        omega
      · rw [if_neg h2, if_neg h2, if_neg h]
        exact ih
theorem dig_tab : ∀ n : Fin 16, digV (bt hexTab (n.val : Int)) = (n.val : Int) := by decide +kernel
theorem dig_at {v : Int} (h0 : 0 ≤ v) (h1 : v < 16) : digV (bt hexTab v) = v := by
  obtain ⟨n, rfl⟩ := Int.eq_ofNat_of_zero_le h0
  exact dig_tab ⟨n, by omega⟩
theorem decV_hexL : ∀ l : List Int, Byt l → decV (hexL l) = l
  | [], _ => rfl
  | c :: l, h => by
    have hc := h c List.mem_cons_self
    have ih := decV_hexL l (fun x hx => h x (List.mem_cons_of_mem _ hx))
    show (16 * digV (bt hexTab (c / 16)) + digV (bt hexTab (c % 16))) :: decV (hexL l) = c :: l
    rw [ih, dig_at (by omega) (by omega), dig_at (by omega) (by omega)]
    congr 1
    omega
theorem bytesOf_str {l : List Int} (h : Byt l) : Go.Proofs.YtmmhghddldhogaaW.PrintWords.bytesOf (strOfNums l) = l :=
  (toList_iff (bytesOf_byt (strOfNums l)) h).1 (by rw [strOfNums_bytesOf])
theorem there_and_back {l : List Int} (h : Byt l) (hl : l.length ≤ 2000) : bytesOfHexV (hexL l) = (0, l) := by
  unfold bytesOfHexV
  have hg : hexGood (hexL l) = true := (hexL_decV (hexL l)).1 (by rw [decV_hexL l h])
  rw [if_neg (by rw [hexL_length]; omega), if_pos hg, decV_hexL l h]
theorem number_l0 (l : List Int) (hb : Byt l) (hl : l.length = 7) : ∀ (d i : Nat) (x : Int), i + d = 7 → 0 ≤ x → x < 256 ^ i → Ev (fun k => impl_NumberOf.l0 k x l (l.length : Int) (i : Int)) (0, (l.drop i).foldl (fun x b => x * 256 + b) x) := by
  intro d
  induction d with
  | zero =>
    intro i x hi h0 h1
    rw [List.drop_of_length_le (by omega)]
    exact ev_step (fun k => impl_NumberOf.l0.eq_2 _ _ _ _ _) (ev_neg (by omega) (ev_now rfl))
  | succ d ih =>
    intro i x hi h0 h1
    have hr := byt_rd hb (i : Int)
    have hp : (256 : Int) ^ i ≤ 281474976710656 := by
      have : i ≤ 6 := by omega
      have : i = 0 ∨ i = 1 ∨ i = 2 ∨ i = 3 ∨ i = 4 ∨ i = 5 ∨ i = 6 := by omega
      rcases this with rfl | rfl | rfl | rfl | rfl | rfl | rfl <;> decide
    have hi' := ih (i + 1) (x * 256 + rd l (i : Int)) (by omega) (by omega) (by rw [Int.pow_succ]; omega)
    have e1 : wrap64 (x * 256) = x * 256 := w64 (by omega) (by omega)
    have e2 : wrap64 (rd l (i : Int)) = rd l (i : Int) := w64 (by omega) (by omega)
    have e3 : (l.drop i).foldl (fun x b => x * 256 + b) x = (l.drop (i + 1)).foldl (fun x b => x * 256 + b) (x * 256 + rd l (i : Int)) := by
      rw [List.drop_eq_getElem_cons (show i < l.length by omega), List.foldl_cons, rd_nat l i (by omega)]
    refine ev_step (fun k => impl_NumberOf.l0.eq_2 _ _ _ _ _) ?_
    refine ev_pos (by omega) (ev_pos (by omega) (ev_pos (by omega) ?_))
    rw [e1, e2, or_byte h0 (by omega) hr.1 hr.2, w64s (by omega), e3]
    exact hi'
theorem number_num7 {n : Int} (h0 : 0 ≤ n) (h1 : n ≤ 72057594037927935) : Ev (fun k => impl_NumberOf.f k (num7 n)) (0, n) := by
  have h := number_l0 (num7 n) (num7_byt n) (num7_length n) 7 0 0 rfl (by omega) (by decide)
  have e : ((num7 n).drop 0).foldl (fun x b => x * 256 + b) 0 = n := by
    simp only [num7, List.drop_zero, List.foldl_cons, List.foldl_nil]
    omega
  rw [e] at h
  unfold impl_NumberOf.f
  exact ev_pos (by rw [num7_length]; rfl) h
theorem drawPut_ok {c : List Int} (hc : Byt c) : ∃ n, spec_DrawPutNumber.f c = some n := by
  obtain ⟨v, hv, _, _⟩ := next_ok hc (at_ := 0) (by omega) (by omega) 90000
  obtain ⟨u, hu, _, _⟩ := next_ok hc (at_ := 0 + 1) (by omega) (by omega) 900
  obtain ⟨p, hp, _⟩ := pick_ok hc (at_ := 0 + 1 + 1) (by omega) (by omega) [v, u, 0, 72057594037927935, 72057594037927936, (-1), 4611686018427387904] (by simp)
  refine ⟨p, ?_⟩
  unfold spec_DrawPutNumber.f
  rw [show spec_l1Source.f c = some (c, 0) from rfl, Option.bind_some]
  simp only
  rw [hv, Option.bind_some]
  simp only
  rw [hu, Option.bind_some]
  simp only
  rw [hp, Option.bind_some]
theorem drawTwo_ok {c : List Int} (hc : Byt c) : ∃ r, Ev (fun k => spec_DrawCompareBytes.f k c) r ∧ Byt r.1 ∧ Byt r.2 ∧ r.1.length ≤ 10 := by
  obtain ⟨v, hv, hv0, hv1⟩ := next_ok hc (at_ := 0) (by omega) (by omega) 5
  obtain ⟨a, p, ha, hb, hl, hp0, hp1⟩ := some_ok hc v (0 + 1) (by omega) (by omega) (by omega)
  obtain ⟨u, hu, hu0, hu1⟩ := next_ok hc (at_ := p) (by omega) (by omega) 5
  have go : ∀ {r : List Int × List Int}, Ev (fun k => (if u = 0 then ((spec_l1Next.f c (p + 1) 3).bind fun bt939 => (if a.length < 140737488355328 then (some (a, (a ++ [(bt939.1) % 256]))) else (none))) else (if u = 1 then (if (a.length : Int) > 0 then ((spec_l1Next.f c (p + 1) (a.length : Int)).bind fun bt944 => (if 0 ≤ bt944.1 then (if bt944.1 < (a.length : Int) then (some (a, (a.set (bt944.1 : Int).toNat (((rd a bt944.1) + 1) % 256)))) else (none)) else (none))) else (some (a, a))) else (if u = 2 then ((spec_l1Next.f c (p + 1) 5).bind fun bt948 => ((spec_l1Some.f k c bt948.2 bt948.1).bind fun bt950 => (some (a, bt950.1)))) else (some (a, a)))))) r → Ev (fun k => spec_DrawCompareBytes.f k c) r := by
    intro r h
    unfold spec_DrawCompareBytes.f spec_l1Two.f
    refine ev_bind (a := r) (ev_bind (ev_now (a := spec_l1Source.f c) (r := (c, 0)) rfl) (ev_bind (ev_now hv) (ev_bind ha (ev_bind (ev_now rfl) (ev_pos (by simp only [List.length_nil]; omega) (ev_bind (ev_now (r := a) (by rw [List.nil_append])) (ev_bind (ev_now hu) h))))))) (ev_now rfl)
  by_cases g0 : u = 0
  · obtain ⟨z, hz, _, _⟩ := next_ok hc (at_ := p + 1) (by omega) (by omega) 3
    exact ⟨(a, a ++ [z % 256]), go (ev_pos g0 (ev_bind (ev_now hz) (ev_pos (by omega) (ev_now rfl)))), hb, byt_append hb (byt_one (by omega) (by omega)), by show a.length ≤ 10; omega⟩
  by_cases g1 : u = 1
  · by_cases gl : (a.length : Int) > 0
    · obtain ⟨z, hz, hz0, hz1⟩ := next_ok hc (at_ := p + 1) (by omega) (by omega) (a.length : Int)
      exact ⟨(a, a.set z.toNat ((rd a z + 1) % 256)), go (ev_neg g0 (ev_pos g1 (ev_pos gl (ev_bind (ev_now hz) (ev_pos hz0 (ev_pos (by show z < _; omega) (ev_now rfl))))))), hb, byt_setv hb _ (by omega) (by omega), by show a.length ≤ 10; omega⟩
    · exact ⟨(a, a), go (ev_neg g0 (ev_pos g1 (ev_neg gl (ev_now rfl)))), hb, hb, by show a.length ≤ 10; omega⟩
  by_cases g2 : u = 2
  · obtain ⟨z, hz, hz0, hz1⟩ := next_ok hc (at_ := p + 1) (by omega) (by omega) 5
    obtain ⟨b, q, hq, hbb, _, _, _⟩ := some_ok hc z (p + 1 + 1) (by omega) (by omega) (by omega)
    exact ⟨(a, b), go (ev_neg g0 (ev_neg g1 (ev_pos g2 (ev_bind (ev_now hz) (ev_bind hq (ev_now rfl)))))), hb, hbb, by show a.length ≤ 10; omega⟩
  · exact ⟨(a, a), go (ev_neg g0 (ev_neg g1 (ev_neg g2 (ev_now rfl)))), hb, hb, by show a.length ≤ 10; omega⟩
end Go.Proofs.Ytmmhghddldhogaa.S
namespace Go.Proofs.Ytmmhghddldhogaa.Pure
open Go.RowKit Go.Proofs.Ytmmhghddldhogaa.S Go.Proofs.YtmmhghddldhogaaW.PrintWords Go.Proofs.YtmmhghddldhogaaW.PrintLast Go.Proofs.YtmmhghddldhogaaW.PrintMore Go.Proofs.Ytmmhghddldhogaa.Base

theorem FnNumbers : laws_FnNumbers.Pure := by
  intro l0 _ hsz hwf
  refine Ev.rounds ?_
  unfold laws_FnNumbers.f
  by_cases hc : (l0.length : Int) > 1048576
  · exact ev_bind (ev_now (show laws_lwBig.f l0 = some (decide ((l0.length : Int) > 1048576)) from rfl)) (ev_pos (by simpa using hc) (ev_now rfl))
  refine ev_bind (ev_now (show laws_lwBig.f l0 = some (decide ((l0.length : Int) > 1048576)) from rfl)) (ev_neg (by simpa using hc) ?_)
  have hy := byt_of_wf hwf
  obtain ⟨n, hn⟩ := drawPut_ok hy
  obtain ⟨⟨a, b⟩, hd, ha, hb, hl⟩ := drawTwo_ok hy
  simp only at ha hb hl
  obtain ⟨s1, s2, s3⟩ := cmpL_swap a b
  refine ev_bind (ev_now hn) (ev_bind hd (ev_bind (ev_now (impl_compare_eq ha hb)) (ev_bind (ev_now (impl_compare_eq hb ha)) (ev_pos (show cmpL a b = wrap64 (-(cmpL b a)) by rw [w64 (n := -(cmpL b a)) (by omega) (by omega)]; exact s1) ?_))))
  refine ev_bind (a := (strOfNums a).toList == (strOfNums b).toList) (ev_now rfl) (ev_bind (a := (strOfNums a).toList == (strOfNums b).toList) (ev_now rfl) ?_)
  refine ev_step (fun k => laws_FnNumbers.j0.eq_2 _ _ _ _) (ev_neg (by simp) ?_)
  have hx := impl_hexOf_ev a ha (by omega)
  have hbx := impl_bytesOfHex_ev (strOfNums (hexL a)) (by
    have h := congrArg List.length (bytesOf_str (hexL_byt a))
    rw [bytesOf_length, hexL_length] at h
    omega)
  rw [bytesOf_str (hexL_byt a), there_and_back ha (by omega)] at hbx
  refine ev_bind hx (ev_bind hbx (ev_pos rfl (ev_bind (ev_now (lw_same a)) ?_)))
  refine ev_step (fun k => laws_FnNumbers.j1.eq_2 _ _ _) (ev_neg (by simp) ?_)
  refine ev_bind (impl_putNumber_ev n) ?_
  by_cases h : 0 ≤ n ∧ n ≤ 72057594037927935
  · have e : putNumberV n = (0, num7 n) := by unfold putNumberV; rw [if_pos h]
    rw [e]
    exact ev_pos rfl (ev_bind (number_num7 h.1 h.2) (ev_pos rfl (ev_pos rfl (ev_now (by simp [num7_length])))))
  · have e : putNumberV n = (3, []) := by unfold putNumberV; rw [if_neg h]
    have hs := spec_putNumber_ev n
    rw [e] at hs ⊢
    exact ev_neg (by simp) (ev_bind hs (ev_now (by simp)))
end Go.Proofs.Ytmmhghddldhogaa.Pure
