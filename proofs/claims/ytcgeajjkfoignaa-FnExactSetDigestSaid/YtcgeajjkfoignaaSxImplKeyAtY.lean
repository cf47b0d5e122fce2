/- Each function of the program that stands below is a plain Lean function, and the call of the program comes to what that function says. No condition beyond those in the statements. -/
import Derived.Test.YtcgeajjkfoignaaSx0
import Derived.Test.YtcgeajjkfoignaaSxBytesEqual
import Derived.Test.YtcgeajjkfoignaaBase
namespace Go.Proofs.Ytcgeajjkfoignaa.S
open Go.RowKit Go.Proofs.YtcgeajjkfoignaaW.PrintWords Go.Proofs.YtcgeajjkfoignaaW.PrintLast Go.Proofs.YtcgeajjkfoignaaW.PrintMore
attribute [local go_sem] max2_int min2_int max_two min_two max_three min_three max_four min_four   -- for this text's walks alone
set_option linter.unusedVariables false
set_option linter.unusedSimpArgs false

-- IMPORT Derived.Test.YtcgeajjkfoignaaBase
open Go.Proofs.Ytcgeajjkfoignaa.Base
/-! ### impl_keyAt: function 83 -/
/-- The first place of a validator with a key, -1 if there is none. -/
def impl_keyAt.at_ (key : List Int) : List S79 → Int → Int
  | [], _ => -1
  | v :: l, i => if ((strOfNums v.f0).toList == (strOfNums key).toList) = true then i else impl_keyAt.at_ key l (i + 1)
def impl_keyAt.f (l0 : List S79) (l1 : List Int) : Option (Int) := (bytes_Equal.f l1 l1).bind fun _ => some (impl_keyAt.at_ l1 l0 0)
set_option maxHeartbeats 8000000 in
set_option maxRecDepth 100000 in
theorem impl_keyAt.lit (A0 : Option Addr) (c0 : Nat) (l0 : List Int) (p : Int) (gk : Nat) (A1 : Option Addr) (c1 : Nat) (l1 : List Int) (w : World) (hk : w.cell? ⟨gk, 0, none⟩ = some (.slice A1 l1.length c1)) (hr0 : Kd.C (Kd.int .u8) w A0 l0.length l0) (hc0 : l0.length ≤ c0) (hr1 : Kd.C (Kd.int .u8) w A1 l1.length l1) (hc1 : l1.length ≤ c1) :
    Calls Try.prog 96 #[.agg #[.slice A0 l0.length c0, .int .i64 p], .pointer (some ⟨gk, 0, none⟩)] w fun e w' => e = .returned (.bool ((strOfNums l0).toList == (strOfNums l1).toList)) ∧ Below w.heap.size w w' := by
  have hb : Below w.heap.size w (w.alloc (.cells #[.slice A0 l0.length c0, .int .i64 p] 79)) := below_alloc (Below.refl _ _) _
  have hk2 : (w.alloc (.cells #[.slice A0 l0.length c0, .int .i64 p] 79)).cell? ⟨gk, 0, none⟩ = some (.slice A1 l1.length c1) := (hb.cell (World.block_lt_of_cell? w _ hk)).trans hk
  have HR0 := Aside0.mk (Kd.C_below hr0 hb)
  have HC0 := Aside0.mk hc0
  have HR1 := Aside0.mk (Kd.C_below hr1 hb)
  have HC1 := Aside0.mk hc1
  have HB := Aside0.mk hb
  clear hr0 hc0 hr1 hc1 hk hb
  go_enter Try.func96, Try.ntmps96
  go_wp2_with (go_at_call 97; refine (bytes_Equal.calls _ _ l0 _ _ l1 ((strOfNums l0).toList == (strOfNums l1).toList) _ HR0.out HC0.out HR1.out HC1.out rfl).mono ?_; rintro e w' ⟨rfl, ⟨nd, rfl⟩⟩)
  go_ret
  exact ⟨by first | rfl | (simp; done), pw_below_drewN HB.out _⟩
set_option maxHeartbeats 8000000 in
set_option maxRecDepth 100000 in
theorem impl_keyAt.index (A0 : Option Addr) (c0 : Nat) (l0 : List S79) (gb : Nat) (A1 : Option Addr) (c1 : Nat) (l1 : List Int) (w : World) (hr0 : Kd.C k79 w A0 l0.length l0) (hc0 : l0.length ≤ c0) (hk : w.cell? ⟨gb, 0, none⟩ = some (.slice A1 l1.length c1)) (hr1 : Kd.C (Kd.int .u8) w A1 l1.length l1) (hc1 : l1.length ≤ c1) :
    Calls Try.prog 95 #[.slice A0 l0.length c0, .func (.func 96) #[] #[.pointer (some ⟨gb, 0, none⟩)]] w fun e w' => e = .returned (.int .i64 (impl_keyAt.at_ l1 l0 0)) ∧ Below w.heap.size w w' := by
  have HR0 := Aside0.mk hr0
  have HR1 := Aside0.mk hr1
  have HC1 := Aside0.mk hc1
  have HK := Aside0.mk hk
  have hn : l0.length ≤ 9223372036854775807 := hr0.2.1
  clear hr0 hc0 hr1 hc1 hk
  have HS := Aside0.mk (show impl_keyAt.at_ l1 (l0.drop 0) ((0 : Nat) : Int) = impl_keyAt.at_ l1 l0 0 from rfl)
  go_enter Try.func95, Try.ntmps95
  go_wp2
  go_loopg [8] l0.length (fun kq v8 w' => ∃ i : Nat, v8 = .int .i64 (i : Int) ∧ Aside0 (i + kq = l0.length) ∧ Aside0 (impl_keyAt.at_ l1 (l0.drop i) (i : Int) = impl_keyAt.at_ l1 l0 0) ∧ Aside0 (Below w.heap.size w w'))
  case atStart => exact ⟨0, rfl, ⟨by omega⟩, HS, ⟨Below.refl _ _⟩⟩
  case round =>
    clear HS
    obtain ⟨i, rfl, HI, HS, HB⟩ := hrel
    cases gk with
    | zero =>
      have e := HI.out
      have c1_ : decide ((i : Int) < (l0.length : Int)) = false := decide_eq_false (by omega)
      have c2_ : decide (i < l0.length) = false := decide_eq_false (by omega)
      have HE := HS.out
      rw [List.drop_of_length_le (by omega)] at HE
      have HE := Aside0.mk HE
      clear HI HS e
      go_wp2
      go_ret
      exact ⟨by rw [← HE.out]; rfl, HB.out⟩
    | succ k1 =>
      have e := HI.out
      have hlt : i < l0.length := by omega
      have c1_ : decide ((i : Int) < (l0.length : Int)) = true := decide_eq_true (by omega)
      have c2_ : decide (i < l0.length) = true := decide_eq_true hlt
      have HE := HS.out
      rw [List.drop_eq_getElem_cons hlt] at HE
      simp only [impl_keyAt.at_] at HE
      obtain ⟨ad, A2, c2, e1, hx, hy, hl, hi⟩ := at_T79 HR0.out (i : Int) (by omega) (by omega)
      cases e1
      have hv : rd_T79 l0 (i : Int) = l0[i] := by
        unfold rd_T79
        simp [List.getD_eq_getElem?_getD, List.getElem?_eq_getElem hlt]
      rw [hv] at hx hy hl hi
      rw [Int.toNat_natCast] at hx hy
      replace hx := (HB.out.cell (World.block_lt_of_cell? w _ hx)).trans hx
      replace hy := (HB.out.cell (World.block_lt_of_cell? w _ hy)).trans hy
      have hk := (HB.out.cell (World.block_lt_of_cell? w _ HK.out)).trans HK.out
      have HE := Aside0.mk HE
      have HL := Aside0.mk hl
      have HI2 := Aside0.mk (Kd.C_below hi HB.out)
      have HR2 := Aside0.mk (Kd.C_below HR1.out HB.out)
      have HK2 := Aside0.mk hk
      clear hl hi hv e hk HS
      generalize l0[i] = v at *
      obtain ⟨vk, vp⟩ := v
      simp only at hx hy
      by_cases hq : ((strOfNums vk).toList == (strOfNums l1).toList) = true
      · have HQ := Aside0.mk hq
        clear hq
        go_wp2_with (go_at_call 96; refine (impl_keyAt.lit _ _ vk vp gb _ _ l1 _ HK2.out HI2.out HL.out HR2.out HC1.out).mono ?_; rintro e w' ⟨rfl, hb_⟩; rw [HQ.out]; have HB2 := Aside0.mk (below_step HB.out hb_); clear hb_)
        go_ret
        exact ⟨by rw [← HE.out, if_pos HQ.out]; rfl, HB2.out⟩
      · have HQ := Aside0.mk (Bool.eq_false_iff.2 hq)
        clear hq
        go_wp2_with (go_at_call 96; refine (impl_keyAt.lit _ _ vk vp gb _ _ l1 _ HK2.out HI2.out HL.out HR2.out HC1.out).mono ?_; rintro e w' ⟨rfl, hb_⟩; rw [HQ.out]; have HB2 := Aside0.mk (below_step HB.out hb_); clear hb_)
        go_roundg k1
        case measure => omega
        case rel => exact ⟨i + 1, by first | rfl | (rw [w64s (by omega)]), ⟨by have := HI.out; omega⟩, ⟨by have h := HE.out; rw [if_neg (by rw [HQ.out]; decide)] at h; exact h⟩, ⟨HB2.out⟩⟩
set_option maxHeartbeats 8000000 in
set_option maxRecDepth 100000 in
theorem impl_keyAt.calls (A0 : Option Addr) (c0 : Nat) (l0 : List S79) (A1 : Option Addr) (c1 : Nat) (l1 : List Int) (r : Int) (w : World) (hr0 : Kd.C k79 w A0 l0.length l0) (hc0 : l0.length ≤ c0) (hr1 : Kd.C (Kd.int .u8) w A1 l1.length l1) (hc1 : l1.length ≤ c1) (h : impl_keyAt.f l0 l1 = some r) :
    Calls Try.prog 83 #[.slice A0 l0.length c0, .slice A1 l1.length c1] w fun e w' => e = .returned (.int .i64 r) ∧ Below w.heap.size w w' := by
  have hb : Below w.heap.size w (w.alloc (.cells #[.slice A1 l1.length c1] 22)) := below_alloc (Below.refl _ _) _
  have hk : (w.alloc (.cells #[.slice A1 l1.length c1] 22)).cell? ⟨w.heap.size, 0, none⟩ = some (.slice A1 l1.length c1) := (blk_cell (blk_new _ _) 0).trans rfl
  have HR0 := Aside0.mk (Kd.C_below hr0 hb)
  have HC0 := Aside0.mk hc0
  have HR1 := Aside0.mk (Kd.C_below hr1 hb)
  have HC1 := Aside0.mk hc1
  have HK := Aside0.mk hk
  have HB := Aside0.mk hb
  clear hr0 hc0 hr1 hc1 hk hb
  have hmf : ∀ (fn : Fn) (first cap : Array Value) (w : World), (Instr.makeFunc fn first cap).run Try.prog w = .ok (.func fn first cap) w := fun _ _ _ _ => rfl
  unfold impl_keyAt.f bytes_Equal.f at h
  obtain rfl := Option.some.inj h
  clear h
  go_enter Try.func83, Try.ntmps83
  go_wp2_with (go_at_call 95; refine (impl_keyAt.index A0 c0 l0 w.heap.size A1 c1 l1 _ HR0.out HC0.out HK.out HR1.out HC1.out).mono ?_; rintro e w' ⟨rfl, hb_⟩; have HB2 := Aside0.mk (below_step HB.out hb_); clear hb_)
  go_ret
  exact ⟨by first | rfl | (simp; done), HB2.out⟩

end Go.Proofs.Ytcgeajjkfoignaa.S
