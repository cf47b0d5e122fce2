/- Each function of the program that stands below is a plain Lean function, and the call of the program comes to what that function says. No condition beyond those in the statements. -/
import Derived.Test.YtmmhghddldhogaaSx0
import Derived.Test.YtmmhghddldhogaaBase
import Derived.Laws.Externs
import GoSem.Extern.BytealgCompare
import Derived.Lib.BytesEntry
namespace Go.Proofs.Ytmmhghddldhogaa.S
open Go.RowKit Go.Proofs.YtmmhghddldhogaaW.PrintWords Go.Proofs.YtmmhghddldhogaaW.PrintLast Go.Proofs.YtmmhghddldhogaaW.PrintMore
attribute [local go_sem] max2_int min2_int max_two min_two max_three min_three max_four min_four   -- for this text's walks alone
set_option linter.unusedVariables false
set_option linter.unusedSimpArgs false

-- IMPORT Derived.Test.YtmmhghddldhogaaBase
-- IMPORT Derived.Laws.Externs
-- IMPORT GoSem.Extern.BytealgCompare
-- IMPORT Derived.Lib.BytesEntry
open Go.Proofs.Ytmmhghddldhogaa.Base
/-! ### bytes_Compare: function 96 -/
/-- The order of two lists of bytes. -/
def bytes_Compare.v : List Int → List Int → Int
  | [], [] => 0
  | [], _ :: _ => -1
  | _ :: _, [] => 1
  | x :: a, y :: b => if x < y then -1 else if y < x then 1 else bytes_Compare.v a b
def bytes_Compare.f (l0 : List Int) (l1 : List Int) : Option (Int) := if (l0.all fun x => decide (0 ≤ x) && decide (x ≤ 255)) && (l1.all fun x => decide (0 ≤ x) && decide (x ≤ 255)) then some (bytes_Compare.v l0 l1) else none
theorem bytes_Compare.find_shift (p : Nat → Bool) : ∀ (m : Nat), ((List.range (m + 1)).find? p) = if p 0 = true then some 0 else ((List.range m).find? fun i => p (i + 1)).map (· + 1) := by
  intro m
  rw [List.range_succ_eq_map, List.find?_cons, List.find?_map]
  cases h : p 0 with
  | true => simp
  | false => simp [Function.comp_def]
theorem bytes_Compare.get_bang (l : List Int) (i : Nat) : (strOfNums l)[i]! = ((l.map fun n => UInt8.ofNat n.toNat)[i]?).getD default := by
  by_cases h : i < l.length
  · have h' : i < (strOfNums l).size := by rw [strOfNums_size]; exact h
    rw [getElem!_pos (strOfNums l) i h', List.getElem?_eq_getElem (by simpa using h), Option.getD_some]
    show (strOfNums l).data[i]'h' = _
    simp [strOfNums]
  · rw [getElem!_neg (strOfNums l) i (by rw [strOfNums_size]; exact h), List.getElem?_eq_none (by simpa using h)]
    rfl
theorem bytes_Compare.get_cons (x : Int) (a : List Int) (i : Nat) : (strOfNums (x :: a))[i + 1]! = (strOfNums a)[i]! := by
  rw [bytes_Compare.get_bang, bytes_Compare.get_bang, List.map_cons, List.getElem?_cons_succ]
theorem bytes_Compare.get_zero (x : Int) (a : List Int) : (strOfNums (x :: a))[0]! = UInt8.ofNat x.toNat := by
  rw [bytes_Compare.get_bang, List.map_cons, List.getElem?_cons_zero]
  rfl
theorem bytes_Compare.cmp_eq : ∀ (a b : List Int), Byt a → Byt b → Extern.BytealgCompare.cmp (strOfNums a) (strOfNums b) = bytes_Compare.v a b
  | [], [], _, _ => rfl
  | [], y :: b, _, _ => by
    unfold Extern.BytealgCompare.cmp
    rw [strOfNums_size, strOfNums_size, List.length_nil, List.length_cons, Nat.zero_min]
    show (if 0 < b.length + 1 then (-1 : Int) else if 0 > b.length + 1 then 1 else 0) = -1
    rw [if_pos (by omega)]
  | x :: a, [], _, _ => by
    unfold Extern.BytealgCompare.cmp
    rw [strOfNums_size, strOfNums_size, List.length_nil, List.length_cons, Nat.min_zero]
    show (if a.length + 1 < 0 then (-1 : Int) else if a.length + 1 > 0 then 1 else 0) = 1
    rw [if_neg (by omega), if_pos (by omega)]
  | x :: a, y :: b, ha, hb => by
    have ih := bytes_Compare.cmp_eq a b (fun z hz => ha z (List.mem_cons_of_mem _ hz)) (fun z hz => hb z (List.mem_cons_of_mem _ hz))
    have hx := ha x List.mem_cons_self
    have hy := hb y List.mem_cons_self
    unfold Extern.BytealgCompare.cmp at ih ⊢
    simp only [strOfNums_size, List.length_cons] at ih ⊢
    rw [show min (a.length + 1) (b.length + 1) = min a.length b.length + 1 by omega, bytes_Compare.find_shift]
    simp only [bytes_Compare.get_cons, bytes_Compare.get_zero]
    have e : (UInt8.ofNat x.toNat != UInt8.ofNat y.toNat) = !decide (x = y) := by
      by_cases h : x = y
      · subst h; simp
      · have h2 : UInt8.ofNat x.toNat ≠ UInt8.ofNat y.toNat := fun q => by
          have := congrArg UInt8.toNat q
          simp only [UInt8.toNat_ofNat'] at this
          omega
        rw [decide_eq_false h, bne_iff_ne.2 h2]; rfl
    have l : (UInt8.ofNat x.toNat < UInt8.ofNat y.toNat) ↔ x < y := by
      rw [UInt8.lt_iff_toNat_lt]
      simp only [UInt8.toNat_ofNat']
      omega
    rw [e]
    unfold bytes_Compare.v
    by_cases h : x = y
    · subst h
      simp only [decide_true, Bool.not_true, Bool.false_eq_true, if_false, Int.lt_irrefl]
      rw [← ih]
      cases (List.range (min a.length b.length)).find? fun i => (strOfNums a)[i]! != (strOfNums b)[i]! with
      | none => simp
      | some i => simp [bytes_Compare.get_cons]
    · simp only [h, decide_false, Bool.not_false, if_true, bytes_Compare.get_zero]
      by_cases h2 : x < y
      · rw [if_pos h2, if_pos (l.2 h2)]
      · rw [if_neg h2, if_neg (fun q => h2 (l.1 q)), if_pos (by omega)]
theorem bytes_Compare.load (w : World) (A0 : Option Addr) (c0 : Nat) (l0 : List Int) (hr0 : Kd.C (Kd.int .u8) w A0 l0.length l0) : (Extern.Bytes.bytesOf (.slice A0 l0.length c0)).run Try.prog w = .ok (strOfNums l0) w := by
  cases A0 with
  | none =>
    have e : l0 = [] := by
      cases l0 with
      | nil => rfl
      | cons x l => obtain ⟨ad, e, _⟩ := hr0.2.2 (by simp); cases e
    subst e
    rfl
  | some ad =>
    have hl := Go.Lib.run_loadBytesX (P := Try.prog) w l0 ad .empty (fun j x hj => by
      have hjl : j < l0.length := (List.getElem?_eq_some_iff.1 hj).1
      obtain ⟨ad', e, hx⟩ := Kd.at_int hr0 (j : Int) (by omega) (by omega)
      cases e
      rw [Int.toNat_natCast] at hx
      rw [hx, rd_nat l0 j hjl]
      rw [List.getElem?_eq_getElem hjl] at hj
      injection hj with hj
      rw [hj])
    have he : (⟨ByteArray.empty.data ++ (Go.Lib.bytesOf l0).toArray⟩ : ByteArray) = strOfNums l0 := by
      apply ByteArray.ext
      show (#[] : Array UInt8) ++ (Go.Lib.bytesOf l0).toArray = _
      simp [strOfNums, Go.Lib.bytesOf]
    rw [he] at hl
    exact hl
set_option maxHeartbeats 8000000 in
set_option maxRecDepth 100000 in
theorem bytes_Compare.calls (A0 : Option Addr) (c0 : Nat) (l0 : List Int) (A1 : Option Addr) (c1 : Nat) (l1 : List Int) (r : Int) (w : World) (hr0 : Kd.C (Kd.int .u8) w A0 l0.length l0) (hc0 : l0.length ≤ c0) (hr1 : Kd.C (Kd.int .u8) w A1 l1.length l1) (hc1 : l1.length ≤ c1) (h : bytes_Compare.f l0 l1 = some r) :
    Calls Try.prog 96 #[.slice A0 l0.length c0, .slice A1 l1.length c1] w fun e w' => e = .returned (.int .i64 r) ∧ Drawn0 w w' := by
  unfold bytes_Compare.f at h
  by_cases c2 : ((l0.all fun x => decide (0 ≤ x) && decide (x ≤ 255)) && (l1.all fun x => decide (0 ≤ x) && decide (x ≤ 255))) = true
  · rw [if_pos c2] at h
    obtain rfl := Option.some.inj h
    rw [Bool.and_eq_true, List.all_eq_true, List.all_eq_true] at c2
    have b0 : Byt l0 := fun x hx => by have := c2.1 x hx; simpa using this
    have b1 : Byt l1 := fun x hx => by have := c2.2 x hx; simpa using this
    have hcmp := bytes_Compare.cmp_eq l0 l1 b0 b1
    have hl0 := bytes_Compare.load w A0 c0 l0 hr0
    have hl1 := bytes_Compare.load w A1 c1 l1 hr1
    have hcf : (callFunc 128 #[.slice A0 l0.length c0, .slice A1 l1.length c1]).run Try.prog w = .ok (.value (.int .i64 (bytes_Compare.v l0 l1))) w := by
      rw [run_callFunc_extern (e := Extern.BytealgCompare.compare) Try.func128 (by kernel_rfl) (by kernel_rfl) (by kernel_rfl) (by kernel_rfl)]
      have e : (Extern.BytealgCompare.compare #[.slice A0 l0.length c0, .slice A1 l1.length c1]).run Try.prog w = .ok (.int .i64 (bytes_Compare.v l0 l1)) w := by
        show Sem.run Try.prog (do pure (goInt (Extern.BytealgCompare.cmp (← Extern.Bytes.bytesOf (.slice A0 l0.length c0)) (← Extern.Bytes.bytesOf (.slice A1 l1.length c1))))) w = _
        simp only [Sem.run_bind, Sem.run_pure, hl0, hl1, Result.andThen, hcmp, goInt]
      rw [e]
      rfl
    clear hl0 hl1 hcmp b0 b1 c2 h hr0 hr1 hc0 hc1
    go_enter Try.func96, Try.ntmps96
    go_wp2
    go_ret
    exact ⟨by first | rfl | (simp; done), Drawn0.refl _⟩
  · rw [if_neg c2] at h
    exact absurd h (by simp)

end Go.Proofs.Ytmmhghddldhogaa.S
