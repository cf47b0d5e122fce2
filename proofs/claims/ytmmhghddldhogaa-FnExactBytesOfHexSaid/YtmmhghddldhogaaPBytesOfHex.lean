/- Bytes out of digits of base 16: the program's BytesOfHex comes to what a plain function of the text says. For every text. -/
import Derived.Test.YtmmhghddldhogaaPHex
import Derived.Test.YtmmhghddldhogaaSxImplBytesOfHex
import Derived.Lib.Bytes
set_option linter.unusedVariables false
namespace Go.Proofs.Ytmmhghddldhogaa.S
open Go.RowKit Go.Proofs.YtmmhghddldhogaaW.PrintWords Go.Proofs.YtmmhghddldhogaaW.PrintLast Go.Proofs.YtmmhghddldhogaaW.PrintMore Go.Proofs.Ytmmhghddldhogaa.Base

/-- What a byte stands for as a digit; the digit's own byte again. -/
def digV (c : Int) : Int := if c ≥ 97 then (c - 87) % 16 else (c - 48) % 16
def good (c : Int) : Prop := bt hexTab (digV c) = c
instance (c : Int) : Decidable (good c) := inferInstanceAs (Decidable (_ = _))
theorem digV_range (c : Int) : 0 ≤ digV c ∧ digV c < 16 := by
  unfold digV
  split <;> omega
def decV : List Int → List Int
  | a :: b :: r => (16 * digV a + digV b) :: decV r
  | _ => []
def hexGood : List Int → Bool
  | [] => true
  | [_] => false
  | a :: b :: r => decide (good a) && (decide (good b) && hexGood r)
theorem decV_length : ∀ t : List Int, (decV t).length ≤ t.length
  | [] => by simp [decV]
  | [_] => by simp [decV]
  | a :: b :: r => by
    have := decV_length r
    simp only [decV, List.length_cons]
    omega
theorem decV_byt : ∀ t : List Int, Byt (decV t)
  | [] => byt_nil
  | [_] => byt_nil
  | a :: b :: r => by
    intro x hx
    simp only [decV, List.mem_cons] at hx
    rcases hx with rfl | hx
    · have := digV_range a
      have := digV_range b
      omega
    · exact decV_byt r x hx
theorem hexL_decV : ∀ t : List Int, hexL (decV t) = t ↔ hexGood t = true
  | [] => by simp [decV, hexL, hexGood]
  | [_] => by simp [decV, hexL, hexGood]
  | a :: b :: r => by
    have ih := hexL_decV r
    have ha := digV_range a
    have hb := digV_range b
    have e1 : (16 * digV a + digV b) / 16 = digV a := by omega
    have e2 : (16 * digV a + digV b) % 16 = digV b := by omega
    simp only [decV, hexL, hexGood, e1, e2, List.cons.injEq, Bool.and_eq_true, decide_eq_true_iff]
    rw [ih]
    rfl
theorem or16 {p q : Int} (h0 : 0 ≤ p) (h1 : p < 16) (h2 : 0 ≤ q) (h3 : q < 16) : Go.bits .or .u8 (p * 16) q = 16 * p + q := by
  obtain ⟨n, rfl⟩ := Int.eq_ofNat_of_zero_le h0
  obtain ⟨m, rfl⟩ := Int.eq_ofNat_of_zero_le h2
  have h := bits_or_u8 (x := n * 16) (y := m) (by omega) (by omega)
  have e : n * 16 ||| m = n * 16 + m := by
    have := Nat.shiftLeft_add_eq_or_of_lt (i := 4) (b := m) (by omega) n
    rw [Nat.shiftLeft_eq] at this
    exact this.symm
  rw [e] at h
  rw [show ((n * 16 : Nat) : Int) = (n : Int) * 16 from by omega] at h
  rw [h]
  omega
/-- The program's digit: its last four bits. -/
theorem hexDigit_eq {c : Int} (h0 : 0 ≤ c) (h1 : c ≤ 255) : ∃ v, impl_hexDigit.f c = some v ∧ 0 ≤ v ∧ v ≤ 255 ∧ v % 16 = digV c := by
  unfold impl_hexDigit.f digV
  by_cases h : c ≥ 97
  · rw [if_pos h, if_pos h]
    exact ⟨_, rfl, by omega, by omega, by omega⟩
  · rw [if_neg h, if_neg h]
    exact ⟨_, rfl, by omega, by omega, by omega⟩
theorem bt_bytesOf (s : ByteArray) (i : Nat) (h : i < s.size) : ∃ hl : i < (Go.Proofs.YtmmhghddldhogaaW.PrintWords.bytesOf s).length, (Go.Proofs.YtmmhghddldhogaaW.PrintWords.bytesOf s)[i] = bt s (i : Int) := by
  have hl : i < (Go.Proofs.YtmmhghddldhogaaW.PrintWords.bytesOf s).length := by rw [Go.Proofs.YtmmhghddldhogaaW.PrintWords.bytesOf_length]; exact h
  refine ⟨hl, ?_⟩
  rw [← rd_bytesOf, rd_nat _ i hl]
theorem strOfNums_bytesOf (s : ByteArray) : strOfNums (Go.Proofs.YtmmhghddldhogaaW.PrintWords.bytesOf s) = s := by
  apply ByteArray.ext
  apply Array.ext'
  simp only [strOfNums, Go.Proofs.YtmmhghddldhogaaW.PrintWords.bytesOf, List.map_map]
  rw [List.map_congr_left (g := id)]
  · simp
  · intro b hb
    simp
theorem bytesOf_byt (s : ByteArray) : Byt (Go.Proofs.YtmmhghddldhogaaW.PrintWords.bytesOf s) := by
  intro x hx
  unfold Go.Proofs.YtmmhghddldhogaaW.PrintWords.bytesOf at hx
  obtain ⟨b, _, rfl⟩ := List.mem_map.1 hx
  have := b.toNat_lt
  omega
theorem toList_iff {a b : List Int} (ha : Byt a) (hb : Byt b) : (strOfNums a).toList = (strOfNums b).toList ↔ a = b := by
  rw [Lib.strOfNums_toList, Lib.strOfNums_toList]
  constructor
  · intro h
    refine strOfNums_inj ha hb ?_
    exact congrArg List.toArray h
  · intro h; rw [h]
/-- What is told of a text's bytes. -/
def bytesOfHexV (t : List Int) : Int × List Int := if t.length > 4000 then (2, []) else if hexGood t = true then (0, decV t) else (5, [])
theorem bytesOfHexV_length (t : List Int) : (bytesOfHexV t).2.length ≤ 4000 := by
  unfold bytesOfHexV
  have := decV_length t
  split
  · simp
  · split
    · simp only; omega
    · simp
theorem impl_bytesOfHex_l0 (s : ByteArray) (hs : s.size ≤ 4000) : ∀ (d i : Nat) (y : List Int), i ≤ s.size → s.size < i + 2 * d → Byt y → y.length ≤ i → y ++ decV ((Go.Proofs.YtmmhghddldhogaaW.PrintWords.bytesOf s).drop i) = decV (Go.Proofs.YtmmhghddldhogaaW.PrintWords.bytesOf s) → Ev (fun k => impl_BytesOfHex.l0 k s y (i : Int)) (if hexGood (Go.Proofs.YtmmhghddldhogaaW.PrintWords.bytesOf s) = true then (0, decV (Go.Proofs.YtmmhghddldhogaaW.PrintWords.bytesOf s)) else (5, [])) := by
  intro d
  induction d with
  | zero => intro i y hi hd; omega
  | succ d ih =>
    intro i y hi hd hy hyl he
    have hbl : (Go.Proofs.YtmmhghddldhogaaW.PrintWords.bytesOf s).length = s.size := Go.Proofs.YtmmhghddldhogaaW.PrintWords.bytesOf_length s
    have e1 : wrap64 ((i : Int) + 1) = ((i + 1 : Nat) : Int) := w64s (by omega)
    refine ev_step (fun k => impl_BytesOfHex.l0.eq_2 _ _ _ _) ?_
    rw [e1]
    by_cases h : i + 1 < s.size
    · refine ev_pos (by omega) (ev_pos (by omega) (ev_pos (by omega) ?_))
      obtain ⟨hl0, g0⟩ := bt_bytesOf s i (by omega)
      obtain ⟨hl1, g1⟩ := bt_bytesOf s (i + 1) (by omega)
      have r0 := bt_range s (i : Int)
      have r1 := bt_range s ((i + 1 : Nat) : Int)
      obtain ⟨v0, f0, a0, b0, m0⟩ := hexDigit_eq r0.1 r0.2
      obtain ⟨v1, f1, a1, b1, m1⟩ := hexDigit_eq r1.1 r1.2
      refine ev_bind (ev_now f0) (ev_pos (by omega) (ev_bind (ev_now f1) (ev_pos (by omega) ?_)))
      rw [and15 a1 b1, show (v0 * 16) % 256 = (v0 % 16) * 16 by omega, or16 (by omega) (by omega) (by omega) (by omega), m0, m1, show wrap64 ((i : Int) + 2) = ((i + 2 : Nat) : Int) by unfold wrap64; omega]
      have hd0 := digV_range (bt s (i : Int))
      have hd1 := digV_range (bt s ((i + 1 : Nat) : Int))
      refine ih (i + 2) _ (by omega) (by omega) (byt_append hy (byt_one (by omega) (by omega))) (by simp; omega) ?_
      rw [← he, List.drop_eq_getElem_cons hl0, List.drop_eq_getElem_cons hl1, g0, g1]
      simp [decV]
    · refine ev_neg (by omega) ?_
      have hz : decV ((Go.Proofs.YtmmhghddldhogaaW.PrintWords.bytesOf s).drop i) = [] := by
        have hlen : ((Go.Proofs.YtmmhghddldhogaaW.PrintWords.bytesOf s).drop i).length ≤ 1 := by rw [List.length_drop]; omega
        match hq : (Go.Proofs.YtmmhghddldhogaaW.PrintWords.bytesOf s).drop i with
        | [] => rfl
        | [_] => rfl
        | a :: b :: r => rw [hq] at hlen; simp at hlen
      rw [hz, List.append_nil] at he
      subst he
      have hlen := decV_length (Go.Proofs.YtmmhghddldhogaaW.PrintWords.bytesOf s)
      refine ev_bind (impl_hexOf_ev _ hy (by omega)) ?_
      have hi := toList_iff (hexL_byt (decV (Go.Proofs.YtmmhghddldhogaaW.PrintWords.bytesOf s))) (bytesOf_byt s)
      rw [strOfNums_bytesOf, hexL_decV] at hi
      by_cases g : hexGood (Go.Proofs.YtmmhghddldhogaaW.PrintWords.bytesOf s) = true
      · rw [if_pos g]; exact ev_pos (hi.2 g) (ev_now rfl)
      · rw [if_neg g]; exact ev_neg (fun h => g (hi.1 h)) (ev_now rfl)
theorem impl_bytesOfHex_ev (s : ByteArray) (hs : s.size ≤ 140737488351232) : Ev (fun k => impl_BytesOfHex.f k s) (bytesOfHexV (Go.Proofs.YtmmhghddldhogaaW.PrintWords.bytesOf s)) := by
  unfold impl_BytesOfHex.f bytesOfHexV
  rw [Go.Proofs.YtmmhghddldhogaaW.PrintWords.bytesOf_length]
  by_cases h : s.size > 4000
  · rw [if_pos h]; exact ev_pos (by omega) (ev_now rfl)
  · rw [if_neg h]
    exact ev_neg (by omega) (impl_bytesOfHex_l0 s (by omega) (s.size + 1) 0 [] (by omega) (by omega) byt_nil (by simp) rfl)
end Go.Proofs.Ytmmhghddldhogaa.S
