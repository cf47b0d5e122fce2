/- Plain words about numbers, lists and rounds that the proofs of this seat share: nothing of the program stands in this text. No condition. -/
import Derived.Test.YtcgeajjkfoignaaWMore
set_option linter.unusedVariables false
namespace Go.Proofs.Ytcgeajjkfoignaa.Base
open Go.RowKit Go.Proofs.YtcgeajjkfoignaaW.PrintWords Go.Proofs.YtcgeajjkfoignaaW.PrintLast Go.Proofs.YtcgeajjkfoignaaW.PrintMore

theorem w64 {n : Int} (h0 : -9223372036854775808 ≤ n) (h1 : n ≤ 9223372036854775807) : wrap64 n = n := by
  unfold wrap64; omega
theorem w64s {i : Nat} (h : i < 9223372036854775807) : wrap64 ((i : Int) + 1) = ((i + 1 : Nat) : Int) := by
  unfold wrap64; omega
/-- Bytes. -/
def Byt (l : List Int) : Prop := ∀ x ∈ l, 0 ≤ x ∧ x ≤ 255
theorem wf_u8 {x : Int} (h : (Lit.int .u8 x).wf = true) : 0 ≤ x ∧ x ≤ 255 := by
  simp [Lit.wf, IntKind.min, IntKind.max, IntKind.signed, IntKind.bits] at h
  omega
theorem wf_i64 {x : Int} (h : (Lit.int .i64 x).wf = true) : -9223372036854775808 ≤ x ∧ x ≤ 9223372036854775807 := by
  simp [Lit.wf, IntKind.min, IntKind.max, IntKind.signed, IntKind.bits] at h
  omega
theorem byt_of_wf {l : List Int} (h : ∀ x ∈ l, (Lit.int .u8 x).wf = true) : Byt l := fun x hx => wf_u8 (h x hx)
theorem byt_nil : Byt [] := fun _ h => by cases h
theorem byt_append {a b : List Int} (ha : Byt a) (hb : Byt b) : Byt (a ++ b) := fun x hx => by
  rcases List.mem_append.1 hx with h | h
  · exact ha x h
  · exact hb x h
theorem byt_take {a : List Int} (ha : Byt a) (n : Nat) : Byt (a.take n) := fun x hx => ha x (List.mem_of_mem_take hx)
theorem byt_drop {a : List Int} (ha : Byt a) (n : Nat) : Byt (a.drop n) := fun x hx => ha x (List.mem_of_mem_drop hx)
theorem byt_one {x : Int} (h0 : 0 ≤ x) (h1 : x ≤ 255) : Byt [x] := fun y hy => by
  rw [List.mem_singleton.1 hy]; exact ⟨h0, h1⟩
theorem byt_rd {l : List Int} (h : Byt l) (i : Int) : 0 ≤ rd l i ∧ rd l i ≤ 255 := by
  unfold rd
  rw [List.getD_eq_getElem?_getD]
  cases e : l[i.toNat]? with
  | none => simp
  | some x => exact h x (List.mem_of_getElem? e)
theorem rd_nat (l : List Int) (i : Nat) (h : i < l.length) : rd l (i : Int) = l[i] := by
  unfold rd
  rw [List.getD_eq_getElem?_getD, Int.toNat_natCast, List.getElem?_eq_getElem h]; rfl

/-! Rounds. -/
theorem ev_pos {α : Type} {c : Prop} [Decidable c] {a b : Nat → Option α} {r : α} (h : c) (k : Ev a r) : Ev (fun n => if c then a n else b n) r := by
  obtain ⟨K, hK⟩ := k
  exact ⟨K, fun n hn => by simp only [if_pos h]; exact hK n hn⟩
theorem ev_neg {α : Type} {c : Prop} [Decidable c] {a b : Nat → Option α} {r : α} (h : ¬ c) (k : Ev b r) : Ev (fun n => if c then a n else b n) r := by
  obtain ⟨K, hK⟩ := k
  exact ⟨K, fun n hn => by simp only [if_neg h]; exact hK n hn⟩
theorem ev_now {α : Type} {a : Option α} {r : α} (h : a = some r) : Ev (fun _ => a) r := ⟨0, fun _ _ => h⟩
theorem ev_bind {α β : Type} {g : Nat → Option α} {f : Nat → α → Option β} {a : α} {r : β} (h : Ev g a) (k : Ev (fun n => f n a) r) : Ev (fun n => (g n).bind (f n)) r := Ev.bind h k
theorem ev_step {α : Type} {g f : Nat → Option α} {r : α} (h : ∀ k, g (k + 1) = f k) (k : Ev f r) : Ev g r := Ev.step h k
theorem ev_eq {α : Type} {g : Nat → Option α} {r q : α} (h : Ev g r) (e : r = q) : Ev g q := e ▸ h
theorem ev_uniq {α : Type} {g : Nat → Option α} {r q : α} (h : Ev g r) (k : Ev g q) : r = q := by
  obtain ⟨K, hK⟩ := h
  obtain ⟨L, hL⟩ := k
  have a := hK (max K L) (Nat.le_max_left _ _)
  have b := hL (max K L) (Nat.le_max_right _ _)
  rw [a] at b
  exact Option.some.inj b

/-! Lists that are filled place by place. -/
theorem fill_step {l x : List Int} {i : Nat} (hi : i < l.length) (hx : x.length = l.length) (h : ∀ j, j < i → x[j]? = l[j]?) : ∀ j, j < i + 1 → (x.set i (rd l (i : Int)))[j]? = l[j]? := by
  intro j hj
  rw [List.getElem?_set]
  by_cases e : i = j
  · subst e
    rw [if_pos rfl, if_pos (by omega), rd_nat l i hi, List.getElem?_eq_getElem hi]
  · rw [if_neg e]
    exact h j (by omega)
theorem fill_all {α : Type} {l x : List α} (hx : x.length = l.length) (h : ∀ j, j < l.length → x[j]? = l[j]?) : x = l := by
  apply List.ext_getElem?
  intro j
  rcases Nat.lt_or_ge j l.length with hj | hj
  · exact h j hj
  · rw [List.getElem?_eq_none (by omega), List.getElem?_eq_none hj]

/-! Bits. -/
theorem wrap_u {k : IntKind} (hk : k.signed = false) {n : Int} (h0 : 0 ≤ n) (h1 : n < 2 ^ k.bits) : k.wrap n = n := by
  have e : n % (2 ^ k.bits : Int) = n := Int.emod_eq_of_lt h0 h1
  simp [IntKind.wrap, hk, e]
theorem wrap_s {n : Int} (h0 : 0 ≤ n) (h1 : n < 9223372036854775808) : IntKind.i64.wrap n = n := by
  have e : n % 18446744073709551616 = n := Int.emod_eq_of_lt h0 (by omega)
  simp [IntKind.wrap, IntKind.bits, IntKind.signed, e]
  omega
theorem ofInt_toNat (m n : Nat) (h : n < 2 ^ m) : (BitVec.ofInt m (n : Int)).toNat = n := by
  rw [BitVec.ofInt_natCast, BitVec.toNat_ofNat, Nat.mod_eq_of_lt h]
theorem bits_and_eq (k : IntKind) {x y : Nat} (hx : x < 2 ^ k.bits) (hy : y < 2 ^ k.bits) : Go.bits .and k (x : Int) (y : Int) = k.wrap ((x &&& y : Nat) : Int) := by
  show k.wrap ((BitVec.ofInt k.bits (x : Int) &&& BitVec.ofInt k.bits (y : Int)).toNat : Int) = _
  rw [BitVec.toNat_and, ofInt_toNat _ _ hx, ofInt_toNat _ _ hy]
theorem bits_or_eq (k : IntKind) {x y : Nat} (hx : x < 2 ^ k.bits) (hy : y < 2 ^ k.bits) : Go.bits .or k (x : Int) (y : Int) = k.wrap ((x ||| y : Nat) : Int) := by
  show k.wrap ((BitVec.ofInt k.bits (x : Int) ||| BitVec.ofInt k.bits (y : Int)).toNat : Int) = _
  rw [BitVec.toNat_or, ofInt_toNat _ _ hx, ofInt_toNat _ _ hy]
theorem bits_xor_eq (k : IntKind) {x y : Nat} (hx : x < 2 ^ k.bits) (hy : y < 2 ^ k.bits) : Go.bits .xor k (x : Int) (y : Int) = k.wrap ((x ^^^ y : Nat) : Int) := by
  show k.wrap ((BitVec.ofInt k.bits (x : Int) ^^^ BitVec.ofInt k.bits (y : Int)).toNat : Int) = _
  rw [BitVec.toNat_xor, ofInt_toNat _ _ hx, ofInt_toNat _ _ hy]
theorem wrap_u8 {n : Nat} (h : n < 256) : IntKind.u8.wrap (n : Int) = (n : Int) := wrap_u rfl (Int.natCast_nonneg _) (by simp [IntKind.bits]; omega)
theorem wrap_u32 {n : Nat} (h : n < 4294967296) : IntKind.u32.wrap (n : Int) = (n : Int) := wrap_u rfl (Int.natCast_nonneg _) (by simp [IntKind.bits]; omega)
theorem bits_and_u8 {x y : Nat} (hx : x < 256) (hy : y < 256) : Go.bits .and .u8 (x : Int) (y : Int) = ((x &&& y : Nat) : Int) := by
  rw [bits_and_eq .u8 hx hy, wrap_u8 (Nat.and_lt_two_pow (n := 8) x hy)]
theorem bits_or_u8 {x y : Nat} (hx : x < 256) (hy : y < 256) : Go.bits .or .u8 (x : Int) (y : Int) = ((x ||| y : Nat) : Int) := by
  rw [bits_or_eq .u8 hx hy, wrap_u8 (Nat.or_lt_two_pow (n := 8) hx hy)]
theorem bits_or_i64 {x y : Nat} (hx : x < 9223372036854775808) (hy : y < 9223372036854775808) : Go.bits .or .i64 (x : Int) (y : Int) = ((x ||| y : Nat) : Int) := by
  have h : x ||| y < 9223372036854775808 := Nat.or_lt_two_pow (n := 63) hx hy
  rw [bits_or_eq .i64 (by simp [IntKind.bits]; omega) (by simp [IntKind.bits]; omega), wrap_s (Int.natCast_nonneg _) (by omega)]
theorem and15 {x : Int} (h0 : 0 ≤ x) (h1 : x ≤ 255) : Go.bits .and .u8 x 15 = x % 16 := by
  obtain ⟨n, rfl⟩ := Int.eq_ofNat_of_zero_le h0
  have h := bits_and_u8 (x := n) (y := 15) (by omega) (by omega)
  rw [show n &&& 15 = n % 16 from Nat.and_two_pow_sub_one_eq_mod n 4] at h
  rw [show ((15 : Nat) : Int) = 15 from rfl] at h
  omega
theorem and1 {x : Int} (h0 : 0 ≤ x) (h1 : x ≤ 255) : Go.bits .and .u8 x 1 = x % 2 := by
  obtain ⟨n, rfl⟩ := Int.eq_ofNat_of_zero_le h0
  have h := bits_and_u8 (x := n) (y := 1) (by omega) (by omega)
  rw [show n &&& 1 = n % 2 from Nat.and_two_pow_sub_one_eq_mod n 1] at h
  rw [show ((1 : Nat) : Int) = 1 from rfl] at h
  omega
theorem and3 {x : Int} (h0 : 0 ≤ x) (h1 : x ≤ 255) : Go.bits .and .u8 x 3 = x % 4 := by
  obtain ⟨n, rfl⟩ := Int.eq_ofNat_of_zero_le h0
  have h := bits_and_u8 (x := n) (y := 3) (by omega) (by omega)
  rw [show n &&& 3 = n % 4 from Nat.and_two_pow_sub_one_eq_mod n 2] at h
  rw [show ((3 : Nat) : Int) = 3 from rfl] at h
  omega
/-- x behind eight bits free, and a byte. -/
theorem or_byte {x y : Int} (h0 : 0 ≤ x) (h1 : x < 36028797018963968) (h2 : 0 ≤ y) (h3 : y ≤ 255) : Go.bits .or .i64 (x * 256) y = x * 256 + y := by
  obtain ⟨n, rfl⟩ := Int.eq_ofNat_of_zero_le h0
  obtain ⟨m, rfl⟩ := Int.eq_ofNat_of_zero_le h2
  have h := bits_or_i64 (x := n * 256) (y := m) (by omega) (by omega)
  have e : n * 256 ||| m = n * 256 + m := by
    have := Nat.shiftLeft_add_eq_or_of_lt (i := 8) (b := m) (by omega) n
    rw [Nat.shiftLeft_eq] at this
    exact this.symm
  rw [e] at h
  rw [show ((n * 256 : Nat) : Int) = (n : Int) * 256 from by omega] at h
  rw [h]
  omega
theorem strOfNums_inj {a b : List Int} (ha : Byt a) (hb : Byt b) (h : (strOfNums a).data = (strOfNums b).data) : a = b := by
  have h2 : a.map (fun n => UInt8.ofNat n.toNat) = b.map (fun n => UInt8.ofNat n.toNat) := by
    have := congrArg Array.toList h
    simpa [strOfNums] using this
  clear h
  induction a generalizing b with
  | nil => cases b with
    | nil => rfl
    | cons y b => simp at h2
  | cons x a ih => cases b with
    | nil => simp at h2
    | cons y b =>
      simp only [List.map_cons, List.cons.injEq] at h2
      have hx := ha x List.mem_cons_self
      have hy := hb y List.mem_cons_self
      have e := congrArg UInt8.toNat h2.1
      simp only [UInt8.toNat_ofNat'] at e
      rw [Nat.mod_eq_of_lt (by omega), Nat.mod_eq_of_lt (by omega)] at e
      rw [ih (fun z hz => ha z (List.mem_cons_of_mem _ hz)) (fun z hz => hb z (List.mem_cons_of_mem _ hz)) h2.2]
      congr 1
      omega
end Go.Proofs.Ytcgeajjkfoignaa.Base
