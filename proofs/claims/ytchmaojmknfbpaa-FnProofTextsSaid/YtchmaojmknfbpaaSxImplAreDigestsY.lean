/- Each function of the program that stands below is a plain Lean function, and the call of the program comes to what that function says. No condition beyond those in the statements. -/
import Derived.Test.YtchmaojmknfbpaaSx0
import Derived.Test.YtchmaojmknfbpaaBase
namespace Go.Proofs.Ytchmaojmknfbpaa.S
open Go.RowKit Go.Proofs.YtchmaojmknfbpaaW.PrintWords Go.Proofs.YtchmaojmknfbpaaW.PrintLast Go.Proofs.YtchmaojmknfbpaaW.PrintMore
attribute [local go_sem] max2_int min2_int max_two min_two max_three min_three max_four min_four   -- for this text's walks alone
set_option linter.unusedVariables false
set_option linter.unusedSimpArgs false

-- IMPORT Derived.Test.YtchmaojmknfbpaaBase
open Go.Proofs.Ytchmaojmknfbpaa.Base
/-! ### impl_areDigests: function 78 -/
def impl_areDigests.f (l0 : List (List Int)) : Option (Bool) := some (l0.all fun b => (b.length : Int) == 32)
/-- The first place of a list that has not 32 bytes, -1 if there is none. -/
def impl_areDigests.bad : List (List Int) → Int → Int
  | [], _ => -1
  | b :: l, i => if (b.length : Int) == 32 then impl_areDigests.bad l (i + 1) else i
theorem impl_areDigests.bad_iff : ∀ (l : List (List Int)) (i : Int), 0 ≤ i → (0 ≤ impl_areDigests.bad l i ↔ (l.all fun b => (b.length : Int) == 32) = false)
  | [], i, _ => by simp [impl_areDigests.bad]
  | b :: l, i, h => by
    have ih := impl_areDigests.bad_iff l (i + 1) (by omega)
    simp only [impl_areDigests.bad, List.all_cons]
    by_cases hb : ((b.length : Int) == 32) = true
    · rw [if_pos hb, hb, Bool.true_and]; exact ih
    · rw [if_neg hb, Bool.eq_false_iff.2 hb, Bool.false_and]; simp [h]
theorem impl_areDigests.bad_ge (l : List (List Int)) : decide (0 ≤ impl_areDigests.bad l 0) = !(l.all fun b => (b.length : Int) == 32) := by
  have h := impl_areDigests.bad_iff l 0 (by omega)
  cases hq : l.all fun b => (b.length : Int) == 32 with
  | true => rw [hq] at h; simp at h; simp; omega
  | false => rw [hq] at h; simp at h; simp; omega
set_option maxHeartbeats 8000000 in
set_option maxRecDepth 100000 in
theorem impl_areDigests.lit (A0 : Option Addr) (n c0 : Nat) (w : World) : Calls Try.prog 97 #[.slice A0 n c0] w fun e w' => e = .returned (.bool (!((n : Int) == 32))) ∧ Drawn0 w w' := by
  go_enter Try.func97, Try.ntmps97
  go_wp2
  go_ret
  exact ⟨by first | rfl | (simp; done), by repeat (first | exact Drawn0.refl _ | apply Drawn0.step)⟩
set_option maxHeartbeats 8000000 in
set_option maxRecDepth 100000 in
theorem impl_areDigests.index (A0 : Option Addr) (c0 : Nat) (l0 : List (List Int)) (w : World) (hr0 : Kd.C (Kd.slice 5 (Kd.int .u8)) w A0 l0.length l0) (hc0 : l0.length ≤ c0) (hn : l0.length ≤ 9223372036854775807) :
    Calls Try.prog 107 #[.slice A0 l0.length c0, .func (.func 97) #[] #[]] w fun e w' => e = .returned (.int .i64 (impl_areDigests.bad l0 0)) ∧ Drawn0 w w' := by
  have HR0 := Aside0.mk hr0
  clear hr0 hc0
  have HB := Aside0.mk (show impl_areDigests.bad (l0.drop 0) ((0 : Nat) : Int) = impl_areDigests.bad l0 0 from rfl)
  go_enter Try.func107, Try.ntmps107
  go_wp2
  go_loopg [8] l0.length (fun kq v8 w' => ∃ i : Nat, v8 = .int .i64 (i : Int) ∧ Aside0 (i + kq = l0.length) ∧ Aside0 (impl_areDigests.bad (l0.drop i) (i : Int) = impl_areDigests.bad l0 0) ∧ Drawn0 w w')
  case atStart => exact ⟨0, rfl, ⟨by omega⟩, HB, Drawn0.refl _⟩
  case round =>
    clear HB
    obtain ⟨i, rfl, HK, HB, ⟨m1, rfl⟩⟩ := hrel
    cases gk with
    | zero =>
      have e := HK.out
      have c1 : decide ((i : Int) < (l0.length : Int)) = false := decide_eq_false (by omega)
      have c2 : decide (i < l0.length) = false := decide_eq_false (by omega)
      have HE := HB.out
      rw [List.drop_of_length_le (by omega)] at HE
      have HE := Aside0.mk HE
      clear HK HB e
      go_wp2
      go_ret
      exact ⟨by rw [← HE.out]; rfl, by repeat (first | exact Drawn0.refl _ | apply Drawn0.step)⟩
    | succ k1 =>
      have e := HK.out
      have hlt : i < l0.length := by omega
      have c1 : decide ((i : Int) < (l0.length : Int)) = true := decide_eq_true (by omega)
      have c2 : decide (i < l0.length) = true := decide_eq_true hlt
      have HE := HB.out
      rw [List.drop_eq_getElem_cons hlt] at HE
      simp only [impl_areDigests.bad] at HE
      obtain ⟨ad, A1, c1_, e1, hx, hl, hi⟩ := at_L1 HR0.out (i : Int) (by omega) (by omega)
      cases e1
      have hlen : (rd_L1 l0 (i : Int)).length = l0[i].length := by
        unfold rd_L1
        simp [List.getD_eq_getElem?_getD, List.getElem?_eq_getElem hlt]
      rw [hlen, Int.toNat_natCast] at hx
      have HE := Aside0.mk HE
      clear hl hi hlen e
      cases hq : ((l0[i].length : Nat) : Int) == 32 with
      | false =>
        have HQ := Aside0.mk hq
        clear hq
        go_wp2_with (go_at_call 97; refine (impl_areDigests.lit _ _ _ _).mono ?_; rintro e w' ⟨rfl, ⟨nd, rfl⟩⟩; rw [HQ.out])
        go_ret
        exact ⟨by rw [← HE.out, HQ.out]; rfl, by repeat (first | exact Drawn0.refl _ | apply Drawn0.step)⟩
      | true =>
        have HQ := Aside0.mk hq
        clear hq
        go_wp2_with (go_at_call 97; refine (impl_areDigests.lit _ _ _ _).mono ?_; rintro e w' ⟨rfl, ⟨nd, rfl⟩⟩; rw [HQ.out])
        go_roundg k1
        case measure => omega
        case rel => exact ⟨i + 1, by first | rfl | (rw [w64s (by omega)]), ⟨by have := HK.out; omega⟩, ⟨by have h := HE.out; rw [HQ.out] at h; exact h⟩, by repeat (first | exact Drawn0.refl _ | apply Drawn0.step)⟩
set_option maxHeartbeats 8000000 in
set_option maxRecDepth 100000 in
theorem impl_areDigests.calls (A0 : Option Addr) (c0 : Nat) (l0 : List (List Int)) (r : Bool) (w : World) (hr0 : Kd.C (Kd.slice 5 (Kd.int .u8)) w A0 l0.length l0) (hc0 : l0.length ≤ c0) (h : impl_areDigests.f l0 = some r) :
    Calls Try.prog 78 #[.slice A0 l0.length c0] w fun e w' => e = .returned (.bool r) ∧ Drawn0 w w' := by
  have HR0 := Aside0.mk hr0
  have HC0 := Aside0.mk hc0
  have hs : l0.length ≤ 9223372036854775807 := hr0.2.1
  clear hr0 hc0
  obtain rfl := Option.some.inj h
  have hb := Aside0.mk (impl_areDigests.bad_ge l0)
  go_enter Try.func78, Try.ntmps78
  go_wp2_with (first | (go_at_call 107; (refine (impl_areDigests.index A0 c0 l0 _ ?side1 HC0.out hs).mono ?_); (case side1 => repeat (first | exact HR0.out | (with_reducible refine Kd.C_alloc ?_ _) | (with_reducible refine Kd.C_drewN ?_ _) | (with_reducible refine Kd.C_drew ?_))); rintro e w' ⟨rfl, ⟨nd, rfl⟩⟩) | go_in)
  go_ret
  exact ⟨by rw [hb.out]; simp, by repeat (first | exact Drawn0.refl _ | apply Drawn0.step)⟩

end Go.Proofs.Ytchmaojmknfbpaa.S
