/- Each function of the program that stands below is a plain Lean function, and the call of the program comes to what that function says. No condition beyond those in the statements. -/
import Derived.Test.YtmmhghddldhogaaSx0
import Derived.Test.YtmmhghddldhogaaSxImplHexOf
import Derived.Test.YtmmhghddldhogaaSxImplBytesOfHex
import Derived.Test.YtmmhghddldhogaaSxLawsHelp
import Derived.Test.YtmmhghddldhogaaSxImplNumberOf
import Derived.Test.YtmmhghddldhogaaSxSpecDrawPutNumber
import Derived.Test.YtmmhghddldhogaaSxSpecDrawCompareBytes
import Derived.Test.YtmmhghddldhogaaSxImplCompareBytes
import Derived.Test.YtmmhghddldhogaaSxImplSameBytes
import Derived.Test.YtmmhghddldhogaaSxImplPutNumber
import Derived.Test.YtmmhghddldhogaaSxSpecPutNumber
namespace Go.Proofs.Ytmmhghddldhogaa.S
open Go.RowKit Go.Proofs.YtmmhghddldhogaaW.PrintWords Go.Proofs.YtmmhghddldhogaaW.PrintLast Go.Proofs.YtmmhghddldhogaaW.PrintMore
attribute [local go_sem] max2_int min2_int max_two min_two max_three min_three max_four min_four   -- for this text's walks alone
set_option linter.unusedVariables false
set_option linter.unusedSimpArgs false

/-! ### laws_FnNumbers: function 5 -/
mutual
def laws_FnNumbers.j0 : Nat → Int → List Int → Bool → Option (Bool)
  | 0, _, _, _ => none
  | k + 1, x3, x4, x34 => if x34 = true then (none) else ((impl_HexOf.f k x4).bind fun t985 => ((impl_BytesOfHex.f k t985).bind fun bt986 => (if bt986.1 = 0 then ((laws_lwBytes.f bt986.2 x4).bind fun t991 => (laws_FnNumbers.j1 k x3 (!t991))) else (laws_FnNumbers.j1 k x3 true))))
def laws_FnNumbers.j1 : Nat → Int → Bool → Option (Bool)
  | 0, _, _ => none
  | k + 1, x3, x47 => if x47 = true then (none) else ((impl_PutNumber.f k x3).bind fun bt992 => (if bt992.1 = 0 then ((impl_NumberOf.f k bt992.2).bind fun bt997 => (if bt997.1 = 0 then (if bt997.2 = x3 then (some ((bt992.2.length : Int) == 7)) else (none)) else (none))) else ((spec_PutNumber.f k x3).bind fun bt1000 => (some (bt1000.1 == bt992.1)))))
end
def laws_FnNumbers.f (k : Nat) (l0 : List Int) : Option (Bool) := (laws_lwBig.f l0).bind fun t973 => (if t973 = true then (some true) else ((spec_DrawPutNumber.f l0).bind fun t974 => ((spec_DrawCompareBytes.f k l0).bind fun bt975 => ((impl_CompareBytes.f bt975.1 bt975.2).bind fun t981 => ((impl_CompareBytes.f bt975.2 bt975.1).bind fun t982 => (if t981 = (wrap64 (-t982)) then ((impl_SameBytes.f bt975.1 bt975.2).bind fun t983 => ((laws_lwBytes.f bt975.1 bt975.2).bind fun t984 => (laws_FnNumbers.j0 k t974 bt975.1 (t983 != t984)))) else (laws_FnNumbers.j0 k t974 bt975.1 true)))))))
theorem laws_FnNumbers.mono_l : ∀ k, (∀ y0 y1 y2, LeO (laws_FnNumbers.j0 k y0 y1 y2) (laws_FnNumbers.j0 (k + 1) y0 y1 y2)) ∧ (∀ y0 y1, LeO (laws_FnNumbers.j1 k y0 y1) (laws_FnNumbers.j1 (k + 1) y0 y1))
  | 0 => ⟨fun _ _ _ r h => by simp [laws_FnNumbers.j0] at h, fun _ _ r h => by simp [laws_FnNumbers.j1] at h⟩
  | k + 1 => by
    obtain ⟨ih0, ih1⟩ := laws_FnNumbers.mono_l k
    refine ⟨?_, ?_⟩
    · intro y0 y1 y2
      unfold laws_FnNumbers.j0
      repeat' first
      | (with_reducible exact ih0 _ _ _)
      | (with_reducible exact ih1 _ _)
      | (with_reducible exact impl_BytesOfHex.mono _ _)
      | (with_reducible exact impl_HexOf.mono _ _)
      | (with_reducible exact impl_NumberOf.mono _ _)
      | (with_reducible exact impl_PutNumber.mono _ _)
      | (with_reducible exact spec_DrawCompareBytes.mono _ _)
      | (with_reducible exact spec_PutNumber.mono _ _)
      | (with_reducible exact LeO.refl _)
      | (with_reducible exact LeO.none _)
      | (with_reducible refine LeO.ite ?_ ?_)
      | (with_reducible refine LeO.bind ?_ (fun _ => ?_))
      | exact ih0 _ _ _
      | exact ih1 _ _
      | exact impl_BytesOfHex.mono _ _
      | exact impl_HexOf.mono _ _
      | exact impl_NumberOf.mono _ _
      | exact impl_PutNumber.mono _ _
      | exact spec_DrawCompareBytes.mono _ _
      | exact spec_PutNumber.mono _ _
      | exact LeO.none _
      | refine LeO.ite ?_ ?_
      | refine LeO.bind ?_ (fun _ => ?_)
    · intro y0 y1
      unfold laws_FnNumbers.j1
      repeat' first
      | (with_reducible exact ih0 _ _ _)
      | (with_reducible exact ih1 _ _)
      | (with_reducible exact impl_BytesOfHex.mono _ _)
      | (with_reducible exact impl_HexOf.mono _ _)
      | (with_reducible exact impl_NumberOf.mono _ _)
      | (with_reducible exact impl_PutNumber.mono _ _)
      | (with_reducible exact spec_DrawCompareBytes.mono _ _)
      | (with_reducible exact spec_PutNumber.mono _ _)
      | (with_reducible exact LeO.refl _)
      | (with_reducible exact LeO.none _)
      | (with_reducible refine LeO.ite ?_ ?_)
      | (with_reducible refine LeO.bind ?_ (fun _ => ?_))
      | exact ih0 _ _ _
      | exact ih1 _ _
      | exact impl_BytesOfHex.mono _ _
      | exact impl_HexOf.mono _ _
      | exact impl_NumberOf.mono _ _
      | exact impl_PutNumber.mono _ _
      | exact spec_DrawCompareBytes.mono _ _
      | exact spec_PutNumber.mono _ _
      | exact LeO.none _
      | refine LeO.ite ?_ ?_
      | refine LeO.bind ?_ (fun _ => ?_)
theorem laws_FnNumbers.mono : ∀ a0 k, LeO (laws_FnNumbers.f k a0) (laws_FnNumbers.f (k + 1) a0) := by
  intro a0 k
  obtain ⟨ih0, ih1⟩ := laws_FnNumbers.mono_l k
  unfold laws_FnNumbers.f
  repeat' first
      | (with_reducible exact ih0 _ _ _)
      | (with_reducible exact ih1 _ _)
      | (with_reducible exact impl_BytesOfHex.mono _ _)
      | (with_reducible exact impl_HexOf.mono _ _)
      | (with_reducible exact impl_NumberOf.mono _ _)
      | (with_reducible exact impl_PutNumber.mono _ _)
      | (with_reducible exact spec_DrawCompareBytes.mono _ _)
      | (with_reducible exact spec_PutNumber.mono _ _)
      | (with_reducible exact LeO.refl _)
      | (with_reducible exact LeO.none _)
      | (with_reducible refine LeO.ite ?_ ?_)
      | (with_reducible refine LeO.bind ?_ (fun _ => ?_))
      | exact ih0 _ _ _
      | exact ih1 _ _
      | exact impl_BytesOfHex.mono _ _
      | exact impl_HexOf.mono _ _
      | exact impl_NumberOf.mono _ _
      | exact impl_PutNumber.mono _ _
      | exact spec_DrawCompareBytes.mono _ _
      | exact spec_PutNumber.mono _ _
      | exact LeO.none _
      | refine LeO.ite ?_ ?_
      | refine LeO.bind ?_ (fun _ => ?_)
set_option maxHeartbeats 8000000 in
set_option maxRecDepth 100000 in
theorem laws_FnNumbers.calls (k : Nat) (A0 : Option Addr) (c0 : Nat) (l0 : List Int) (r : Bool) (w : World) (hr0 : Kd.C (Kd.int .u8) w A0 l0.length l0) (hc0 : l0.length ≤ c0) (h : laws_FnNumbers.f k l0 = some r) :
    Calls Try.prog 5 #[.slice A0 l0.length c0] w fun e w' => e = .returned (.bool r) ∧ Below w.heap.size w w' := by
  have hu24 := Try.underlying24
  have hu46 := Try.underlying46
  have HR0 := Aside0.mk hr0
  have HC0 := Aside0.mk hc0
  clear hr0 hc0
  have HB := Aside0.mk (Below.refl w.heap.size w)
  have H : ((laws_lwBig.f l0).bind fun t973 => (if t973 = true then (some true) else ((spec_DrawPutNumber.f l0).bind fun t974 => ((spec_DrawCompareBytes.f k l0).bind fun bt975 => ((impl_CompareBytes.f bt975.1 bt975.2).bind fun t981 => ((impl_CompareBytes.f bt975.2 bt975.1).bind fun t982 => (if t981 = (wrap64 (-t982)) then ((impl_SameBytes.f bt975.1 bt975.2).bind fun t983 => ((laws_lwBytes.f bt975.1 bt975.2).bind fun t984 => (laws_FnNumbers.j0 k t974 bt975.1 (t983 != t984)))) else (laws_FnNumbers.j0 k t974 bt975.1 true)))))))) = some r := h
  clear h
  replace H := Option.bind_eq_some_iff.mp H
  obtain ⟨t973, A20, H⟩ := H
  replace H : (if t973 = true then (some true) else ((spec_DrawPutNumber.f l0).bind fun t974 => ((spec_DrawCompareBytes.f k l0).bind fun bt975 => ((impl_CompareBytes.f bt975.1 bt975.2).bind fun t981 => ((impl_CompareBytes.f bt975.2 bt975.1).bind fun t982 => (if t981 = (wrap64 (-t982)) then ((impl_SameBytes.f bt975.1 bt975.2).bind fun t983 => ((laws_lwBytes.f bt975.1 bt975.2).bind fun t984 => (laws_FnNumbers.j0 k t974 bt975.1 (t983 != t984)))) else (laws_FnNumbers.j0 k t974 bt975.1 true))))))) = some r := H
  have A2 := Aside0.mk A20
  clear A20
  by_cases c3 : t973 = true
  · subst c3
    have H1 : (some true) = some r := by rw [if_pos rfl] at H; exact H
    clear H
    have H := H1
    clear H1
    obtain rfl := Option.some.inj H
    have hfd24_0 := fun (a0 a1 : Value) (w : World) => (show (Instr.field 24 (.agg #[a0, a1]) 0).run Try.prog w = .ok a0 w from by kernel_rfl)
    have hfd24_1 := fun (a0 a1 : Value) (w : World) => (show (Instr.field 24 (.agg #[a0, a1]) 1).run Try.prog w = .ok a1 w from by kernel_rfl)
    have hfd46_0 := fun (a0 a1 : Value) (w : World) => (show (Instr.field 46 (.agg #[a0, a1]) 0).run Try.prog w = .ok a0 w from by kernel_rfl)
    have hfd46_1 := fun (a0 a1 : Value) (w : World) => (show (Instr.field 46 (.agg #[a0, a1]) 1).run Try.prog w = .ok a1 w from by kernel_rfl)
    have hfd50_0 := fun (a0 a1 a2 : Value) (w : World) => (show (Instr.field 50 (.agg #[a0, a1, a2]) 0).run Try.prog w = .ok a0 w from by kernel_rfl)
    have hfd50_1 := fun (a0 a1 a2 : Value) (w : World) => (show (Instr.field 50 (.agg #[a0, a1, a2]) 1).run Try.prog w = .ok a1 w from by kernel_rfl)
    have hfd50_2 := fun (a0 a1 a2 : Value) (w : World) => (show (Instr.field 50 (.agg #[a0, a1, a2]) 2).run Try.prog w = .ok a2 w from by kernel_rfl)
    go_enter Try.func5, Try.ntmps5
    go_wp2_with (first | ((with_reducible refine gate_callee (f := 26) rfl ?_); refine goesL_ (some 10) rfl rfl Try.func26 (by kernel_rfl) rfl #[.slice A0 l0.length c0] rfl (by (try simp only [List.map_toArray, List.map_cons, List.map_nil]); first | done | rfl | (simp only [List.length_drop, List.length_take]; rfl)) ?_; (with_reducible refine (laws_lwBig.calls _ _ l0 true _ ?side1 ?side2 A2.out).mono ?_); (case side1 => repeat (first | exact HR0.out | (with_reducible refine Kd.C_alloc ?_ _) | (with_reducible refine Kd.C_drewN ?_ _) | (with_reducible refine Kd.C_drew ?_))); (case side2 => exact HC0.out); rintro e w' ⟨rfl, ⟨nd, rfl⟩⟩; refine ⟨_, rfl, ?_⟩))
    go_ret
    exact ⟨by first | rfl | (simp [errW_none, errW_some] <;> rfl) | (simp [*, errW_none, errW_some] <;> rfl), by repeat (first | (with_reducible first | exact HB.out | apply below_alloc | apply pw_below_drewN | apply below_drew1) | exact HB.out)⟩
  · replace c3 := Bool.eq_false_iff.mpr c3
    subst c3
    have H1 : ((spec_DrawPutNumber.f l0).bind fun t974 => ((spec_DrawCompareBytes.f k l0).bind fun bt975 => ((impl_CompareBytes.f bt975.1 bt975.2).bind fun t981 => ((impl_CompareBytes.f bt975.2 bt975.1).bind fun t982 => (if t981 = (wrap64 (-t982)) then ((impl_SameBytes.f bt975.1 bt975.2).bind fun t983 => ((laws_lwBytes.f bt975.1 bt975.2).bind fun t984 => (laws_FnNumbers.j0 k t974 bt975.1 (t983 != t984)))) else (laws_FnNumbers.j0 k t974 bt975.1 true)))))) = some r := by rw [if_neg (show ¬ (false = true) by decide)] at H; exact H
    clear H
    have H := H1
    clear H1
    replace H := Option.bind_eq_some_iff.mp H
    obtain ⟨t974, A40, H⟩ := H
    replace H : ((spec_DrawCompareBytes.f k l0).bind fun bt975 => ((impl_CompareBytes.f bt975.1 bt975.2).bind fun t981 => ((impl_CompareBytes.f bt975.2 bt975.1).bind fun t982 => (if t981 = (wrap64 (-t982)) then ((impl_SameBytes.f bt975.1 bt975.2).bind fun t983 => ((laws_lwBytes.f bt975.1 bt975.2).bind fun t984 => (laws_FnNumbers.j0 k t974 bt975.1 (t983 != t984)))) else (laws_FnNumbers.j0 k t974 bt975.1 true))))) = some r := H
    have A4 := Aside0.mk A40
    clear A40
    replace H := Option.bind_eq_some_iff.mp H
    obtain ⟨⟨t975, t976⟩, A50, H⟩ := H
    replace H : ((impl_CompareBytes.f t975 t976).bind fun t981 => ((impl_CompareBytes.f t976 t975).bind fun t982 => (if t981 = (wrap64 (-t982)) then ((impl_SameBytes.f t975 t976).bind fun t983 => ((laws_lwBytes.f t975 t976).bind fun t984 => (laws_FnNumbers.j0 k t974 t975 (t983 != t984)))) else (laws_FnNumbers.j0 k t974 t975 true)))) = some r := H
    have A5 := Aside0.mk A50
    clear A50
    have HC6 := Aside0.mk H
    clear H
    have hfd24_0 := fun (a0 a1 : Value) (w : World) => (show (Instr.field 24 (.agg #[a0, a1]) 0).run Try.prog w = .ok a0 w from by kernel_rfl)
    have hfd24_1 := fun (a0 a1 : Value) (w : World) => (show (Instr.field 24 (.agg #[a0, a1]) 1).run Try.prog w = .ok a1 w from by kernel_rfl)
    have hfd46_0 := fun (a0 a1 : Value) (w : World) => (show (Instr.field 46 (.agg #[a0, a1]) 0).run Try.prog w = .ok a0 w from by kernel_rfl)
    have hfd46_1 := fun (a0 a1 : Value) (w : World) => (show (Instr.field 46 (.agg #[a0, a1]) 1).run Try.prog w = .ok a1 w from by kernel_rfl)
    have hfd50_0 := fun (a0 a1 a2 : Value) (w : World) => (show (Instr.field 50 (.agg #[a0, a1, a2]) 0).run Try.prog w = .ok a0 w from by kernel_rfl)
    have hfd50_1 := fun (a0 a1 a2 : Value) (w : World) => (show (Instr.field 50 (.agg #[a0, a1, a2]) 1).run Try.prog w = .ok a1 w from by kernel_rfl)
    have hfd50_2 := fun (a0 a1 a2 : Value) (w : World) => (show (Instr.field 50 (.agg #[a0, a1, a2]) 2).run Try.prog w = .ok a2 w from by kernel_rfl)
    go_enter Try.func5, Try.ntmps5
    go_upto_region 5 with (first | ((with_reducible refine gate_callee (f := 26) rfl ?_); refine goesL_ (some 10) rfl rfl Try.func26 (by kernel_rfl) rfl #[.slice A0 l0.length c0] rfl (by (try simp only [List.map_toArray, List.map_cons, List.map_nil]); first | done | rfl | (simp only [List.length_drop, List.length_take]; rfl)) ?_; (with_reducible refine (laws_lwBig.calls _ _ l0 false _ ?side1 ?side2 A2.out).mono ?_); (case side1 => repeat (first | exact HR0.out | (with_reducible refine Kd.C_alloc ?_ _) | (with_reducible refine Kd.C_drewN ?_ _) | (with_reducible refine Kd.C_drew ?_))); (case side2 => exact HC0.out); rintro e w' ⟨rfl, ⟨nd, rfl⟩⟩; refine ⟨_, rfl, ?_⟩) | ((with_reducible refine gate_callee (f := 27) rfl ?_); refine goesL_ (some 12) rfl rfl Try.func27 (by kernel_rfl) rfl #[.slice A0 l0.length c0] rfl (by (try simp only [List.map_toArray, List.map_cons, List.map_nil]); first | done | rfl | (simp only [List.length_drop, List.length_take]; rfl)) ?_; (with_reducible refine (spec_DrawPutNumber.calls _ _ l0 t974 _ ?side1 ?side2 A4.out).mono ?_); (case side1 => repeat (first | exact HR0.out | (with_reducible refine Kd.C_alloc ?_ _) | (with_reducible refine Kd.C_drewN ?_ _) | (with_reducible refine Kd.C_drew ?_))); (case side2 => exact HC0.out); rintro e w7 ⟨rfl, hb⟩; refine ⟨_, rfl, ?_⟩; have n0_ := Aside0.mk (below_step (by repeat (first | (with_reducible first | exact HB.out | apply below_alloc | apply pw_below_drewN | apply below_drew1) | exact HB.out)) hb); clear HB; have HB := n0_; clear n0_; (try clear hb); (try clear hb2); (try clear hk); (try clear hi)) | ((with_reducible refine gate_callee (f := 28) rfl ?_); refine goesL_ (some 15) rfl rfl Try.func28 (by kernel_rfl) rfl #[.slice A0 l0.length c0] rfl (by (try simp only [List.map_toArray, List.map_cons, List.map_nil]); first | done | rfl | (simp only [List.length_drop, List.length_take]; rfl)) ?_; (with_reducible refine (spec_DrawCompareBytes.calls k _ _ l0 t975 t976 _ ?side1 ?side2 A5.out).mono ?_); (case side1 => repeat (first | exact (Kd.C_below HR0.out HB.out) | (with_reducible refine Kd.C_alloc ?_ _) | (with_reducible refine Kd.C_drewN ?_ _) | (with_reducible refine Kd.C_drew ?_))); (case side2 => exact HC0.out); rintro e w8 ⟨v977, v979, rfl, ho0, ho1, hb⟩; refine ⟨_, rfl, ?_⟩; have n0_ := Aside0.mk (Kd.R_lower ho0 (below_size (by repeat (first | (with_reducible first | exact HB.out | apply below_alloc | apply pw_below_drewN | apply below_drew1) | exact HB.out)))); have n1_ := Aside0.mk (Kd.R_lower ho1 (below_size (by repeat (first | (with_reducible first | exact HB.out | apply below_alloc | apply pw_below_drewN | apply below_drew1) | exact HB.out)))); have n2_ := Aside0.mk (below_step (by repeat (first | (with_reducible first | exact HB.out | apply below_alloc | apply pw_below_drewN | apply below_drew1) | exact HB.out)) hb); clear HB; have HO978 := n0_; have HO980 := n1_; have HB := n2_; clear n0_ n1_ n2_; (try clear hb); (try clear hb2); (try clear hk); (try clear hi); (try clear ho0); (try clear ho1)))
    (try simp only [Act.put, List.setIfInBounds_toArray, List.set_cons_zero, List.set_cons_succ])
    go_cut [34] (fun v34 wc => ∃ (kq : Nat) (x34_5 : Bool), v34 = .bool x34_5 ∧ Aside0 (laws_FnNumbers.j0 kq t974 t975 x34_5 = some r) ∧ Aside0 (kq ≤ k) ∧ Aside0 (Kd.R (Kd.int .u8) 5 wc w.heap.size (fun _ => True) v977 t975) ∧ Aside0 (Below w.heap.size w wc))
    case first =>
      have H := HC6.out
      clear HC6
      replace H := Option.bind_eq_some_iff.mp H
      obtain ⟨t981, A90, H⟩ := H
      replace H : ((impl_CompareBytes.f t976 t975).bind fun t982 => (if t981 = (wrap64 (-t982)) then ((impl_SameBytes.f t975 t976).bind fun t983 => ((laws_lwBytes.f t975 t976).bind fun t984 => (laws_FnNumbers.j0 k t974 t975 (t983 != t984)))) else (laws_FnNumbers.j0 k t974 t975 true))) = some r := H
      have A9 := Aside0.mk A90
      clear A90
      replace H := Option.bind_eq_some_iff.mp H
      obtain ⟨t982, A100, H⟩ := H
      replace H : (if t981 = (wrap64 (-t982)) then ((impl_SameBytes.f t975 t976).bind fun t983 => ((laws_lwBytes.f t975 t976).bind fun t984 => (laws_FnNumbers.j0 k t974 t975 (t983 != t984)))) else (laws_FnNumbers.j0 k t974 t975 true)) = some r := H
      have A10 := Aside0.mk A100
      clear A100
      by_cases c11 : t981 = (wrap64 (-t982))
      · rw [if_pos c11] at H
        have c11b0 : (t981 == (wrap64 (-t982))) = true := beq_iff_eq.mpr c11
        have c11b1 : (t981 != (wrap64 (-t982))) = false := bne_eq_false_iff_eq.mpr c11
        clear c11
        (first | rw [c11b0] | (simp only [i64_w, i32_w]; rw [c11b0]) | skip)
        replace H := Option.bind_eq_some_iff.mp H
        obtain ⟨t983, A120, H⟩ := H
        replace H : ((laws_lwBytes.f t975 t976).bind fun t984 => (laws_FnNumbers.j0 k t974 t975 (t983 != t984))) = some r := H
        have A12 := Aside0.mk A120
        clear A120
        replace H := Option.bind_eq_some_iff.mp H
        obtain ⟨t984, A130, H⟩ := H
        replace H : (laws_FnNumbers.j0 k t974 t975 (t983 != t984)) = some r := H
        have A13 := Aside0.mk A130
        clear A130
        have H' := Aside0.mk H
        clear H
        obtain ⟨Ao14, co14, eo14⟩ := Kd.R_slice HO978.out
        subst eo14
        obtain ⟨Ao15, co15, eo15⟩ := Kd.R_slice HO980.out
        subst eo15
        go_wp2_with (first | ((with_reducible refine gate_callee (f := 29) rfl ?_); refine goesL_ (some 20) rfl rfl Try.func29 (by kernel_rfl) rfl #[.slice Ao14 t975.length co14, .slice Ao15 t976.length co15] rfl (by (try simp only [List.map_toArray, List.map_cons, List.map_nil]); first | done | rfl | (simp only [List.length_drop, List.length_take]; rfl)) ?_; (with_reducible refine (impl_CompareBytes.calls _ _ t975 _ _ t976 t981 _ ?side1 ?side2 ?side3 ?side4 A9.out).mono ?_); (case side1 => repeat (first | exact (Kd.R_reads' HO978.out).2.2 | (with_reducible refine Kd.C_alloc ?_ _) | (with_reducible refine Kd.C_drewN ?_ _) | (with_reducible refine Kd.C_drew ?_))); (case side2 => exact (Kd.R_reads' HO978.out).2.1); (case side3 => repeat (first | exact (Kd.R_reads' HO980.out).2.2 | (with_reducible refine Kd.C_alloc ?_ _) | (with_reducible refine Kd.C_drewN ?_ _) | (with_reducible refine Kd.C_drew ?_))); (case side4 => exact (Kd.R_reads' HO980.out).2.1); rintro e w' ⟨rfl, ⟨nd, rfl⟩⟩; refine ⟨_, rfl, ?_⟩) | ((with_reducible refine gate_callee (f := 29) rfl ?_); refine goesL_ (some 23) rfl rfl Try.func29 (by kernel_rfl) rfl #[.slice Ao15 t976.length co15, .slice Ao14 t975.length co14] rfl (by (try simp only [List.map_toArray, List.map_cons, List.map_nil]); first | done | rfl | (simp only [List.length_drop, List.length_take]; rfl)) ?_; (with_reducible refine (impl_CompareBytes.calls _ _ t976 _ _ t975 t982 _ ?side1 ?side2 ?side3 ?side4 A10.out).mono ?_); (case side1 => repeat (first | exact (Kd.R_reads' HO980.out).2.2 | (with_reducible refine Kd.C_alloc ?_ _) | (with_reducible refine Kd.C_drewN ?_ _) | (with_reducible refine Kd.C_drew ?_))); (case side2 => exact (Kd.R_reads' HO980.out).2.1); (case side3 => repeat (first | exact (Kd.R_reads' HO978.out).2.2 | (with_reducible refine Kd.C_alloc ?_ _) | (with_reducible refine Kd.C_drewN ?_ _) | (with_reducible refine Kd.C_drew ?_))); (case side4 => exact (Kd.R_reads' HO978.out).2.1); rintro e w' ⟨rfl, ⟨nd, rfl⟩⟩; refine ⟨_, rfl, ?_⟩) | (go_at_call 30; (with_reducible refine (impl_SameBytes.calls _ _ t975 _ _ t976 t983 _ ?side1 ?side2 ?side3 ?side4 A12.out).mono ?_); (case side1 => repeat (first | exact (Kd.R_reads' HO978.out).2.2 | (with_reducible refine Kd.C_alloc ?_ _) | (with_reducible refine Kd.C_drewN ?_ _) | (with_reducible refine Kd.C_drew ?_))); (case side2 => exact (Kd.R_reads' HO978.out).2.1); (case side3 => repeat (first | exact (Kd.R_reads' HO980.out).2.2 | (with_reducible refine Kd.C_alloc ?_ _) | (with_reducible refine Kd.C_drewN ?_ _) | (with_reducible refine Kd.C_drew ?_))); (case side4 => exact (Kd.R_reads' HO980.out).2.1); rintro e w' ⟨rfl, ⟨nd, rfl⟩⟩) | (go_at_call 31; (with_reducible refine (laws_lwBytes.calls _ _ t975 _ _ t976 t984 _ ?side1 ?side2 ?side3 ?side4 A13.out).mono ?_); (case side1 => repeat (first | exact (Kd.R_reads' HO978.out).2.2 | (with_reducible refine Kd.C_alloc ?_ _) | (with_reducible refine Kd.C_drewN ?_ _) | (with_reducible refine Kd.C_drew ?_))); (case side2 => exact (Kd.R_reads' HO978.out).2.1); (case side3 => repeat (first | exact (Kd.R_reads' HO980.out).2.2 | (with_reducible refine Kd.C_alloc ?_ _) | (with_reducible refine Kd.C_drewN ?_ _) | (with_reducible refine Kd.C_drew ?_))); (case side4 => exact (Kd.R_reads' HO980.out).2.1); rintro e w' ⟨rfl, ⟨nd, rfl⟩⟩))
        go_meet
        case rel => exact ⟨_, ((t983 != t984)), (by first | rfl | (simp; done) | (simp [*]; done)), H', ⟨by first | omega | exact Nat.le_refl _⟩, ⟨by (with_reducible repeat (first | apply Kd.R_alloc | apply Kd.R_drewN | apply Kd.R_drew)); exact Kd.R_mono HO978.out (fun _ hk => trivial)⟩, ⟨by repeat (first | (with_reducible first | exact HB.out | apply below_alloc | apply pw_below_drewN | apply below_drew1) | exact HB.out)⟩⟩
      · rw [if_neg c11] at H
        have c11b0 : (t981 == (wrap64 (-t982))) = false := beq_eq_false_iff_ne.mpr c11
        have c11b1 : (t981 != (wrap64 (-t982))) = true := bne_iff_ne.mpr c11
        (first | rw [c11b0] | (simp only [i64_w, i32_w]; rw [c11b0]) | skip)
        have H' := Aside0.mk H
        clear H
        obtain ⟨Ao16, co16, eo16⟩ := Kd.R_slice HO978.out
        subst eo16
        obtain ⟨Ao17, co17, eo17⟩ := Kd.R_slice HO980.out
        subst eo17
        go_wp2_with (first | ((with_reducible refine gate_callee (f := 29) rfl ?_); refine goesL_ (some 20) rfl rfl Try.func29 (by kernel_rfl) rfl #[.slice Ao16 t975.length co16, .slice Ao17 t976.length co17] rfl (by (try simp only [List.map_toArray, List.map_cons, List.map_nil]); first | done | rfl | (simp only [List.length_drop, List.length_take]; rfl)) ?_; (with_reducible refine (impl_CompareBytes.calls _ _ t975 _ _ t976 t981 _ ?side1 ?side2 ?side3 ?side4 A9.out).mono ?_); (case side1 => repeat (first | exact (Kd.R_reads' HO978.out).2.2 | (with_reducible refine Kd.C_alloc ?_ _) | (with_reducible refine Kd.C_drewN ?_ _) | (with_reducible refine Kd.C_drew ?_))); (case side2 => exact (Kd.R_reads' HO978.out).2.1); (case side3 => repeat (first | exact (Kd.R_reads' HO980.out).2.2 | (with_reducible refine Kd.C_alloc ?_ _) | (with_reducible refine Kd.C_drewN ?_ _) | (with_reducible refine Kd.C_drew ?_))); (case side4 => exact (Kd.R_reads' HO980.out).2.1); rintro e w' ⟨rfl, ⟨nd, rfl⟩⟩; refine ⟨_, rfl, ?_⟩) | ((with_reducible refine gate_callee (f := 29) rfl ?_); refine goesL_ (some 23) rfl rfl Try.func29 (by kernel_rfl) rfl #[.slice Ao17 t976.length co17, .slice Ao16 t975.length co16] rfl (by (try simp only [List.map_toArray, List.map_cons, List.map_nil]); first | done | rfl | (simp only [List.length_drop, List.length_take]; rfl)) ?_; (with_reducible refine (impl_CompareBytes.calls _ _ t976 _ _ t975 t982 _ ?side1 ?side2 ?side3 ?side4 A10.out).mono ?_); (case side1 => repeat (first | exact (Kd.R_reads' HO980.out).2.2 | (with_reducible refine Kd.C_alloc ?_ _) | (with_reducible refine Kd.C_drewN ?_ _) | (with_reducible refine Kd.C_drew ?_))); (case side2 => exact (Kd.R_reads' HO980.out).2.1); (case side3 => repeat (first | exact (Kd.R_reads' HO978.out).2.2 | (with_reducible refine Kd.C_alloc ?_ _) | (with_reducible refine Kd.C_drewN ?_ _) | (with_reducible refine Kd.C_drew ?_))); (case side4 => exact (Kd.R_reads' HO978.out).2.1); rintro e w' ⟨rfl, ⟨nd, rfl⟩⟩; refine ⟨_, rfl, ?_⟩))
        go_meet
        case rel => exact ⟨_, (true), (by first | rfl | (simp; done) | (simp [*]; done)), H', ⟨by first | omega | exact Nat.le_refl _⟩, ⟨by (with_reducible repeat (first | apply Kd.R_alloc | apply Kd.R_drewN | apply Kd.R_drew)); exact Kd.R_mono HO978.out (fun _ hk => trivial)⟩, ⟨by repeat (first | (with_reducible first | exact HB.out | apply below_alloc | apply pw_below_drewN | apply below_drew1) | exact HB.out)⟩⟩
    case rest =>
      clear HC6
      try clear c1
      try clear c2
      try clear p2
      try clear c3
      try clear c5
      try clear p6
      try clear c11
      try clear c11b0
      try clear c11b1
      obtain ⟨kq, x34_5, rfl, HA, HJ5, HO_4, HB⟩ := hcut
      cases kq with
      | zero => exact absurd HA.out (by simp [laws_FnNumbers.j0])
      | succ kj5 =>
        have H := HA.out
        clear HA
        simp only [laws_FnNumbers.j0] at H
        by_cases c18 : x34_5 = true
        · subst c18
          have H1 : (none) = some r := by rw [if_pos rfl] at H; exact H
          clear H
          have H := H1
          clear H1
          exact absurd H (by simp)
        · replace c18 := Bool.eq_false_iff.mpr c18
          subst c18
          have H1 : ((impl_HexOf.f kj5 t975).bind fun t985 => ((impl_BytesOfHex.f kj5 t985).bind fun bt986 => (if bt986.1 = 0 then ((laws_lwBytes.f bt986.2 t975).bind fun t991 => (laws_FnNumbers.j1 kj5 t974 (!t991))) else (laws_FnNumbers.j1 kj5 t974 true)))) = some r := by rw [if_neg (show ¬ (false = true) by decide)] at H; exact H
          clear H
          have H := H1
          clear H1
          replace H := Option.bind_eq_some_iff.mp H
          obtain ⟨t985, A190, H⟩ := H
          replace H : ((impl_BytesOfHex.f kj5 t985).bind fun bt986 => (if bt986.1 = 0 then ((laws_lwBytes.f bt986.2 t975).bind fun t991 => (laws_FnNumbers.j1 kj5 t974 (!t991))) else (laws_FnNumbers.j1 kj5 t974 true))) = some r := H
          have A19 := Aside0.mk A190
          clear A190
          replace H := Option.bind_eq_some_iff.mp H
          obtain ⟨⟨t986, t987⟩, A200, H⟩ := H
          replace H : (if t986 = 0 then ((laws_lwBytes.f t987 t975).bind fun t991 => (laws_FnNumbers.j1 kj5 t974 (!t991))) else (laws_FnNumbers.j1 kj5 t974 true)) = some r := H
          have A20 := Aside0.mk A200
          clear A200
          have HC21 := Aside0.mk H
          clear H
          obtain ⟨Ao22, co22, eo22⟩ := Kd.R_slice HO_4.out
          subst eo22
          go_upto_region 8 with (first | ((with_reducible refine gate_callee (f := 32) rfl ?_); refine goesL_ (some 36) rfl rfl Try.func32 (by kernel_rfl) rfl #[.slice Ao22 t975.length co22] rfl (by (try simp only [List.map_toArray, List.map_cons, List.map_nil]); first | done | rfl | (simp only [List.length_drop, List.length_take]; rfl)) ?_; (with_reducible refine (impl_HexOf.calls kj5 _ _ t975 t985 _ ?side1 ?side2 A19.out).mono ?_); (case side1 => repeat (first | exact (Kd.R_reads' HO_4.out).2.2 | (with_reducible refine Kd.C_alloc ?_ _) | (with_reducible refine Kd.C_drewN ?_ _) | (with_reducible refine Kd.C_drew ?_))); (case side2 => exact (Kd.R_reads' HO_4.out).2.1); rintro e w23 ⟨rfl, hb⟩; refine ⟨_, rfl, ?_⟩; have n0_ := Aside0.mk (Kd.R_below (by (with_reducible repeat (first | apply Kd.R_alloc | apply Kd.R_drewN | apply Kd.R_drew)); exact HO_4.out) hb); have n1_ := Aside0.mk (below_step (by repeat (first | (with_reducible first | exact HB.out | apply below_alloc | apply pw_below_drewN | apply below_drew1) | exact HB.out)) hb); clear HO_4; clear HB; have HO_4 := n0_; have HB := n1_; clear n0_ n1_; (try clear hb); (try clear hb2); (try clear hk); (try clear hi)) | ((with_reducible refine gate_callee (f := 17) rfl ?_); refine goesL_ (some 37) rfl rfl Try.func17 (by kernel_rfl) rfl #[.string t985] rfl (by (try simp only [List.map_toArray, List.map_cons, List.map_nil]); first | done | rfl | (simp only [List.length_drop, List.length_take]; rfl)) ?_; (with_reducible refine (impl_BytesOfHex.calls kj5 t985 t986 t987 _ A20.out).mono ?_); rintro e w24 ⟨v988, rfl, ho0, hb⟩; refine ⟨_, rfl, ?_⟩; have n0_ := Aside0.mk (Kd.R_elder' (by (with_reducible repeat (first | apply Kd.R_alloc | apply Kd.R_drewN | apply Kd.R_drew)); exact HO_4.out) (Kd.R_base ho0) hb); have n1_ := Aside0.mk (Kd.R_lower (Kd.R_new' ho0 (Kd.R_lt (by (with_reducible repeat (first | apply Kd.R_alloc | apply Kd.R_drewN | apply Kd.R_drew)); exact HO_4.out))) (below_size (by repeat (first | (with_reducible first | exact HB.out | apply below_alloc | apply pw_below_drewN | apply below_drew1) | exact HB.out)))); have n2_ := Aside0.mk (below_step (by repeat (first | (with_reducible first | exact HB.out | apply below_alloc | apply pw_below_drewN | apply below_drew1) | exact HB.out)) hb); clear HO_4; clear HB; have HO_4 := n0_; have HO989 := n1_; have HB := n2_; clear n0_ n1_ n2_; (try clear hb); (try clear hb2); (try clear hk); (try clear hi); (try clear ho0)) | ((with_reducible refine gate_dst (N := 6) rfl ?_); (try (refine gate_guard (by rfl) ?_; dsimp only)); refine box_event ?hg (N := 6) ?hd (cs := #[.int .i64 0, .slice none 0 0]) (t := 24) ?hr ?_; (case hd => rfl); (case hg => rfl); (case hr => first | (go_simp; done) | (go_simp; rfl)); intro gb990 hg w25 hbox hb; have n0_ := Aside0.mk (Kd.R_below (by (with_reducible repeat (first | apply Kd.R_alloc | apply Kd.R_drewN | apply Kd.R_drew)); exact HO_4.out) hb); have n1_ := Aside0.mk (Kd.R_below (by (with_reducible repeat (first | apply Kd.R_alloc | apply Kd.R_drewN | apply Kd.R_drew)); exact HO989.out) hb); have n2_ := Aside0.mk (below_step (by repeat (first | (with_reducible first | exact HB.out | apply below_alloc | apply pw_below_drewN | apply below_drew1) | exact HB.out)) hb); have n3_ := Aside0.mk (hbox); have n4_ := Aside0.mk ((by rw [hg]; exact (below_size (by repeat (first | (with_reducible first | exact HB.out | apply below_alloc | apply pw_below_drewN | apply below_drew1) | exact HB.out))) : w.heap.size ≤ gb990)); have n5_ := Aside0.mk ((by rw [hg]; exact (below_size (by repeat (first | (with_reducible first | exact HB.out | apply below_alloc | apply pw_below_drewN | apply below_drew1) | exact HB.out))) : w.heap.size ≤ gb990)); clear HO_4; clear HO989; clear HB; have HO_4 := n0_; have HO989 := n1_; have HB := n2_; have BK990 := n3_; have GW990 := n4_; have GE990 := n5_; clear n0_ n1_ n2_ n3_ n4_ n5_; clear hb hbox hg; have hcz26_0 : w25.cell? ⟨gb990, 0, none⟩ = some (.int .i64 0) := (blk_cell BK990.out 0).trans (by first | rfl | (simp only [*] <;> rfl)); have hcz26_1 : w25.cell? ⟨gb990, 1, none⟩ = some (.slice none 0 0) := (blk_cell BK990.out 1).trans (by first | rfl | (simp only [*] <;> rfl)); have hfz26_0 := blk_frozen BK990.out 0; have hfz26_1 := blk_frozen BK990.out 1; obtain ⟨Ao27, co27, eo27⟩ := Kd.R_slice HO989.out; subst eo27))
          (try simp only [Act.put, List.setIfInBounds_toArray, List.set_cons_zero, List.set_cons_succ])
          go_cut [47] (fun v47 wc => ∃ (kq : Nat) (x47_20 : Bool), v47 = .bool x47_20 ∧ Aside0 (laws_FnNumbers.j1 kq t974 x47_20 = some r) ∧ Aside0 (kq ≤ kj5) ∧ Aside0 (Kd.R (Kd.int .u8) 5 wc w.heap.size (fun _ => True) (.slice Ao27 t987.length co27) t987) ∧ Aside0 (wc.heap[gb990]? = some (.cells #[.int .i64 t986, (.slice Ao27 t987.length co27)] 24 (0, 0))) ∧ Aside0 (Below w.heap.size w wc))
          case first =>
            have H := HC21.out
            clear HC21
            by_cases c28 : t986 = 0
            · rw [if_pos c28] at H
              have c28b0 : (t986 == 0) = true := beq_iff_eq.mpr c28
              have c28b1 : (t986 != 0) = false := bne_eq_false_iff_eq.mpr c28
              clear c28
              (first | rw [c28b0] | (simp only [i64_w, i32_w]; rw [c28b0]) | skip)
              replace H := Option.bind_eq_some_iff.mp H
              obtain ⟨t991, A290, H⟩ := H
              replace H : (laws_FnNumbers.j1 kj5 t974 (!t991)) = some r := H
              have A29 := Aside0.mk A290
              clear A290
              have H' := Aside0.mk H
              clear H
              have hcz30_0 : w25.cell? ⟨gb990, 0, none⟩ = some (.int .i64 0) := (blk_cell BK990.out 0).trans (by first | rfl | (simp only [*] <;> rfl))
              have hcz30_1 : w25.cell? ⟨gb990, 1, none⟩ = some (.slice none 0 0) := (blk_cell BK990.out 1).trans (by first | rfl | (simp only [*] <;> rfl))
              have hfz30_0 := blk_frozen BK990.out 0
              have hfz30_1 := blk_frozen BK990.out 1
              go_wp2_with (first | (go_at_call 31; (with_reducible refine (laws_lwBytes.calls _ _ t987 _ _ t975 t991 _ ?side1 ?side2 ?side3 ?side4 A29.out).mono ?_); (case side1 => refine (Kd.R_reads' (e := 5) (base := w.heap.size) (ok := fun k_ => (True ∧ some k_ ≠ (.slice Ao22 t975.length co22 : Value).ownBlock)) (n := t987.length) (c := co27) ?_).2.2; exact (by (with_reducible repeat (first | apply Kd.R_alloc | apply Kd.R_drewN | apply Kd.R_drew)); exact (Kd.R_mono (Kd.R_far (p := ⟨gb990, 1, none⟩) (Kd.R_far (p := ⟨gb990, 0, none⟩) (Kd.R_types HO989.out BK990.out (by decide)) (fun _ hk => hk.2) (.int .i64 t986)) (fun _ hk => hk.2) (.slice Ao27 t987.length co27)) (fun _ h_ => h_.1)))); (case side2 => exact (Kd.R_reads' HO989.out).2.1); (case side3 => refine (Kd.R_reads' (e := 5) (base := w.heap.size) (ok := fun k_ => (True ∧ some k_ ≠ (.slice Ao27 t987.length co27 : Value).ownBlock)) (n := t975.length) (c := co22) ?_).2.2; exact (by (with_reducible repeat (first | apply Kd.R_alloc | apply Kd.R_drewN | apply Kd.R_drew)); exact (Kd.R_mono (Kd.R_far (p := ⟨gb990, 1, none⟩) (Kd.R_far (p := ⟨gb990, 0, none⟩) (Kd.R_types HO_4.out BK990.out (by decide)) (fun _ hk => hk.2) (.int .i64 t986)) (fun _ hk => hk.2) (.slice Ao27 t987.length co27)) (fun _ h_ => h_.1)))); (case side4 => exact (Kd.R_reads' HO_4.out).2.1); rintro e w' ⟨rfl, ⟨nd, rfl⟩⟩))
              go_meet
              case rel => exact ⟨_, (!t991), (by first | rfl | (simp; done) | (simp [*]; done)), H', ⟨by have := HJ5.out; first | omega | exact Nat.le_refl _⟩, ⟨by (with_reducible repeat (first | apply Kd.R_alloc | apply Kd.R_drewN | apply Kd.R_drew)); exact Kd.R_mono (Kd.R_far (p := ⟨gb990, 1, none⟩) (Kd.R_far (p := ⟨gb990, 0, none⟩) (Kd.R_types HO989.out BK990.out (by decide)) (fun _ hk => hk.2) (.int .i64 t986)) (fun _ hk => hk.2) (.slice Ao27 t987.length co27)) (fun _ hk => trivial)⟩, ⟨by (with_reducible repeat (first | refine blk_drewN ?_ _ | refine blk_drew ?_ | refine blk_alloc ?_ _)); refine blk_put (cs := #[.int .i64 t986, .slice none 0 0]) ?_ 1 _ rfl; (with_reducible repeat (first | refine blk_drewN ?_ _ | refine blk_drew ?_ | refine blk_alloc ?_ _)); refine blk_put (cs := #[.int .i64 0, .slice none 0 0]) ?_ 0 _ rfl; (with_reducible repeat (first | refine blk_drewN ?_ _ | refine blk_drew ?_ | refine blk_alloc ?_ _)); exact BK990.out⟩, ⟨by repeat (first | (with_reducible first | exact HB.out | apply below_alloc | apply pw_below_drewN | apply below_drew1 | refine below_set ?_ GE990.out) | exact HB.out)⟩⟩
            · rw [if_neg c28] at H
              have c28b0 : (t986 == 0) = false := beq_eq_false_iff_ne.mpr c28
              have c28b1 : (t986 != 0) = true := bne_iff_ne.mpr c28
              (first | rw [c28b0] | (simp only [i64_w, i32_w]; rw [c28b0]) | skip)
              have H' := Aside0.mk H
              clear H
              have hcz31_0 : w25.cell? ⟨gb990, 0, none⟩ = some (.int .i64 0) := (blk_cell BK990.out 0).trans (by first | rfl | (simp only [*] <;> rfl))
              have hcz31_1 : w25.cell? ⟨gb990, 1, none⟩ = some (.slice none 0 0) := (blk_cell BK990.out 1).trans (by first | rfl | (simp only [*] <;> rfl))
              have hfz31_0 := blk_frozen BK990.out 0
              have hfz31_1 := blk_frozen BK990.out 1
              go_wp2
              go_meet
              case rel => exact ⟨_, (true), (by first | rfl | (simp; done) | (simp [*]; done)), H', ⟨by have := HJ5.out; first | omega | exact Nat.le_refl _⟩, ⟨by (with_reducible repeat (first | apply Kd.R_alloc | apply Kd.R_drewN | apply Kd.R_drew)); exact Kd.R_mono (Kd.R_far (p := ⟨gb990, 1, none⟩) (Kd.R_far (p := ⟨gb990, 0, none⟩) (Kd.R_types HO989.out BK990.out (by decide)) (fun _ hk => hk.2) (.int .i64 t986)) (fun _ hk => hk.2) (.slice Ao27 t987.length co27)) (fun _ hk => trivial)⟩, ⟨by (with_reducible repeat (first | refine blk_drewN ?_ _ | refine blk_drew ?_ | refine blk_alloc ?_ _)); refine blk_put (cs := #[.int .i64 t986, .slice none 0 0]) ?_ 1 _ rfl; (with_reducible repeat (first | refine blk_drewN ?_ _ | refine blk_drew ?_ | refine blk_alloc ?_ _)); refine blk_put (cs := #[.int .i64 0, .slice none 0 0]) ?_ 0 _ rfl; (with_reducible repeat (first | refine blk_drewN ?_ _ | refine blk_drew ?_ | refine blk_alloc ?_ _)); exact BK990.out⟩, ⟨by repeat (first | (with_reducible first | exact HB.out | apply below_alloc | apply pw_below_drewN | apply below_drew1 | refine below_set ?_ GE990.out) | exact HB.out)⟩⟩
          case rest =>
            clear HC21
            try clear c1
            try clear c2
            try clear p2
            try clear c3
            try clear c5
            try clear p6
            try clear c11
            try clear c11b0
            try clear c11b1
            try clear c17
            try clear c18
            try clear c26
            try clear c27
            try clear c28
            try clear c28b0
            try clear c28b1
            try clear c29
            try clear hcz26_0
            try clear hcz26_1
            try clear hcz30_0
            try clear hcz30_1
            try clear hcz31_0
            try clear hcz31_1
            try clear hfz26_0
            try clear hfz26_1
            try clear hfz30_0
            try clear hfz30_1
            try clear hfz31_0
            try clear hfz31_1
            try clear p2
            try clear p6
            obtain ⟨kq, x47_20, rfl, HA, HJ20, HO_991001, BK990, HB⟩ := hcut
            cases kq with
            | zero => exact absurd HA.out (by simp [laws_FnNumbers.j1])
            | succ kj20 =>
              have H := HA.out
              clear HA
              simp only [laws_FnNumbers.j1] at H
              by_cases c32 : x47_20 = true
              · subst c32
                have H1 : (none) = some r := by rw [if_pos rfl] at H; exact H
                clear H
                have H := H1
                clear H1
                exact absurd H (by simp)
              · replace c32 := Bool.eq_false_iff.mpr c32
                subst c32
                have H1 : ((impl_PutNumber.f kj20 t974).bind fun bt992 => (if bt992.1 = 0 then ((impl_NumberOf.f kj20 bt992.2).bind fun bt997 => (if bt997.1 = 0 then (if bt997.2 = t974 then (some ((bt992.2.length : Int) == 7)) else (none)) else (none))) else ((spec_PutNumber.f kj20 t974).bind fun bt1000 => (some (bt1000.1 == bt992.1))))) = some r := by rw [if_neg (show ¬ (false = true) by decide)] at H; exact H
                clear H
                have H := H1
                clear H1
                replace H := Option.bind_eq_some_iff.mp H
                obtain ⟨⟨t992, t993⟩, A330, H⟩ := H
                replace H : (if t992 = 0 then ((impl_NumberOf.f kj20 t993).bind fun bt997 => (if bt997.1 = 0 then (if bt997.2 = t974 then (some ((t993.length : Int) == 7)) else (none)) else (none))) else ((spec_PutNumber.f kj20 t974).bind fun bt1000 => (some (bt1000.1 == t992)))) = some r := H
                have A33 := Aside0.mk A330
                clear A330
                by_cases c34 : t992 = 0
                · rw [if_pos c34] at H
                  have c34b0 : (t992 == 0) = true := beq_iff_eq.mpr c34
                  have c34b1 : (t992 != 0) = false := bne_eq_false_iff_eq.mpr c34
                  clear c34
                  replace H := Option.bind_eq_some_iff.mp H
                  obtain ⟨⟨t997, t998⟩, A350, H⟩ := H
                  replace H : (if t997 = 0 then (if t998 = t974 then (some ((t993.length : Int) == 7)) else (none)) else (none)) = some r := H
                  have A35 := Aside0.mk A350
                  clear A350
                  by_cases c36 : t997 = 0
                  · rw [if_pos c36] at H
                    have c36b0 : (t997 == 0) = true := beq_iff_eq.mpr c36
                    have c36b1 : (t997 != 0) = false := bne_eq_false_iff_eq.mpr c36
                    clear c36
                    by_cases c37 : t998 = t974
                    · rw [if_pos c37] at H
                      have c37b0 : (t998 == t974) = true := beq_iff_eq.mpr c37
                      have c37b1 : (t998 != t974) = false := bne_eq_false_iff_eq.mpr c37
                      clear c37
                      obtain rfl := Option.some.inj H
                      go_wp2_with (first | ((with_reducible refine gate_callee (f := 33) rfl ?_); refine goesL_ (some 49) rfl rfl Try.func33 (by kernel_rfl) rfl #[.int .i64 t974] rfl (by (try simp only [List.map_toArray, List.map_cons, List.map_nil]); first | done | rfl | (simp only [List.length_drop, List.length_take]; rfl)) ?_; (with_reducible refine (impl_PutNumber.calls kj20 t974 t992 t993 _ A33.out).mono ?_); rintro e w38 ⟨v994, rfl, ho0, hb⟩; refine ⟨_, rfl, ?_⟩; have n0_ := Aside0.mk (Kd.R_elder' (by (with_reducible repeat (first | apply Kd.R_alloc | apply Kd.R_drewN | apply Kd.R_drew)); exact HO_991001.out) (Kd.R_base ho0) hb); have n1_ := Aside0.mk (Kd.R_lower (Kd.R_new' ho0 (Kd.R_lt (by (with_reducible repeat (first | apply Kd.R_alloc | apply Kd.R_drewN | apply Kd.R_drew)); exact HO_991001.out))) (below_size (by repeat (first | (with_reducible first | exact HB.out | apply below_alloc | apply pw_below_drewN | apply below_drew1 | refine below_set ?_ GE990.out) | exact HB.out)))); have n2_ := Aside0.mk (blk_below (g := gb990) (o := .cells #[.int .i64 t986, .slice Ao27 t987.length co27] 24 (0, 0)) (by (with_reducible repeat (first | refine blk_drewN ?_ _ | refine blk_drew ?_ | refine blk_alloc ?_ _)); exact BK990.out) hb); have n3_ := Aside0.mk (below_step (by repeat (first | (with_reducible first | exact HB.out | apply below_alloc | apply pw_below_drewN | apply below_drew1 | refine below_set ?_ GE990.out) | exact HB.out)) hb); clear HO_991001; clear BK990; clear HB; have HO_991001 := n0_; have HO995 := n1_; have BK990 := n2_; have HB := n3_; clear n0_ n1_ n2_ n3_; (try clear hb); (try clear hb2); (try clear hk); (try clear hi); (try clear ho0)) | ((with_reducible refine gate_dst (N := 7) rfl ?_); (try (refine gate_guard (by rfl) ?_; dsimp only)); refine box_event ?hg (N := 7) ?hd (cs := #[.int .i64 0, .slice none 0 0]) (t := 24) ?hr ?_; (case hd => rfl); (case hg => rfl); (case hr => first | (go_simp; done) | (go_simp; rfl)); intro gb996 hg w39 hbox hb; have n0_ := Aside0.mk (Kd.R_below (by (with_reducible repeat (first | apply Kd.R_alloc | apply Kd.R_drewN | apply Kd.R_drew)); exact HO_991001.out) hb); have n1_ := Aside0.mk (Kd.R_below (by (with_reducible repeat (first | apply Kd.R_alloc | apply Kd.R_drewN | apply Kd.R_drew)); exact HO995.out) hb); have n2_ := Aside0.mk (blk_below (g := gb990) (o := .cells #[.int .i64 t986, .slice Ao27 t987.length co27] 24 (0, 0)) (by (with_reducible repeat (first | refine blk_drewN ?_ _ | refine blk_drew ?_ | refine blk_alloc ?_ _)); exact BK990.out) hb); have n3_ := Aside0.mk (below_step (by repeat (first | (with_reducible first | exact HB.out | apply below_alloc | apply pw_below_drewN | apply below_drew1 | refine below_set ?_ GE990.out) | exact HB.out)) hb); have n4_ := Aside0.mk (hbox); have n5_ := Aside0.mk ((by rw [hg]; exact (below_size (by repeat (first | (with_reducible first | exact HB.out | apply below_alloc | apply pw_below_drewN | apply below_drew1 | refine below_set ?_ GE990.out) | exact HB.out))) : w.heap.size ≤ gb996)); have n6_ := Aside0.mk ((by rw [hg]; exact (below_size (by repeat (first | (with_reducible first | exact HB.out | apply below_alloc | apply pw_below_drewN | apply below_drew1 | refine below_set ?_ GE990.out) | exact HB.out))) : w.heap.size ≤ gb996)); have n7_ := Aside0.mk ((by rw [hg]; exact Nat.ne_of_lt (blk_lt (g := gb990) (o := .cells #[.int .i64 t986, .slice Ao27 t987.length co27] 24 (0, 0)) (by (with_reducible repeat (first | refine blk_drewN ?_ _ | refine blk_drew ?_ | refine blk_alloc ?_ _)); exact BK990.out)) : gb990 ≠ gb996)); have n8_ := Aside0.mk ((by rw [hg]; exact Nat.ne_of_gt (blk_lt (g := gb990) (o := .cells #[.int .i64 t986, .slice Ao27 t987.length co27] 24 (0, 0)) (by (with_reducible repeat (first | refine blk_drewN ?_ _ | refine blk_drew ?_ | refine blk_alloc ?_ _)); exact BK990.out)) : gb996 ≠ gb990)); clear HO_991001; clear HO995; clear BK990; clear HB; have HO_991001 := n0_; have HO995 := n1_; have BK990 := n2_; have HB := n3_; have BK996 := n4_; have GW996 := n5_; have GE996 := n6_; have NB990_996 := n7_; have NB996_990 := n8_; clear n0_ n1_ n2_ n3_ n4_ n5_ n6_ n7_ n8_; clear hb hbox hg; have hnb40 := NB996_990.out; have hnc40 := NB990_996.out; have hcz41_0 : w39.cell? ⟨gb996, 0, none⟩ = some (.int .i64 0) := (blk_cell BK996.out 0).trans (by first | rfl | (simp only [*] <;> rfl)); have hcz41_1 : w39.cell? ⟨gb996, 1, none⟩ = some (.slice none 0 0) := (blk_cell BK996.out 1).trans (by first | rfl | (simp only [*] <;> rfl)); have hfz41_0 := blk_frozen BK996.out 0; have hfz41_1 := blk_frozen BK996.out 1; obtain ⟨Ao42, co42, eo42⟩ := Kd.R_slice HO995.out; subst eo42) | ((with_reducible refine gate_callee (f := 35) rfl ?_); refine goesL_ (some 61) rfl rfl Try.func35 (by kernel_rfl) rfl #[.slice Ao42 t993.length co42] rfl (by (try simp only [List.map_toArray, List.map_cons, List.map_nil]); first | done | rfl | (simp only [List.length_drop, List.length_take]; rfl)) ?_; (with_reducible refine (impl_NumberOf.calls kj20 _ _ t993 t997 t998 _ ?side1 ?side2 A35.out).mono ?_); (case side1 => refine (Kd.R_reads' (e := 5) (base := w.heap.size) (ok := fun k_ => (True ∧ some k_ ≠ (.slice Ao27 t987.length co27 : Value).ownBlock)) (n := t993.length) (c := co42) ?_).2.2; exact (by (with_reducible repeat (first | apply Kd.R_alloc | apply Kd.R_drewN | apply Kd.R_drew)); exact (Kd.R_mono (Kd.R_far (p := ⟨gb996, 1, none⟩) (Kd.R_far (p := ⟨gb996, 0, none⟩) (Kd.R_types HO995.out BK996.out (by decide)) (fun _ hk => hk.2) (.int .i64 t992)) (fun _ hk => hk.2) (.slice Ao42 t993.length co42)) (fun _ h_ => h_.1)))); (case side2 => exact (Kd.R_reads' HO995.out).2.1); rintro e w43 ⟨rfl, hb⟩; refine ⟨_, rfl, ?_⟩; have n0_ := Aside0.mk (Kd.R_below (by (with_reducible repeat (first | apply Kd.R_alloc | apply Kd.R_drewN | apply Kd.R_drew)); exact (Kd.R_mono (Kd.R_far (p := ⟨gb996, 1, none⟩) (Kd.R_far (p := ⟨gb996, 0, none⟩) (Kd.R_types HO_991001.out BK996.out (by decide)) (fun _ hk => hk.2) (.int .i64 t992)) (fun _ hk => hk.2) (.slice Ao42 t993.length co42)) (fun _ h_ => h_.1))) hb); have n1_ := Aside0.mk (Kd.R_below (by (with_reducible repeat (first | apply Kd.R_alloc | apply Kd.R_drewN | apply Kd.R_drew)); exact (Kd.R_mono (Kd.R_far (p := ⟨gb996, 1, none⟩) (Kd.R_far (p := ⟨gb996, 0, none⟩) (Kd.R_types HO995.out BK996.out (by decide)) (fun _ hk => hk.2) (.int .i64 t992)) (fun _ hk => hk.2) (.slice Ao42 t993.length co42)) (fun _ h_ => h_.1))) hb); have n2_ := Aside0.mk (blk_below (g := gb990) (o := .cells #[.int .i64 t986, .slice Ao27 t987.length co27] 24 (0, 0)) (by (with_reducible repeat (first | refine blk_drewN ?_ _ | refine blk_drew ?_ | refine blk_alloc ?_ _)); refine blk_far ?_ NB990_996.out _; (with_reducible repeat (first | refine blk_drewN ?_ _ | refine blk_drew ?_ | refine blk_alloc ?_ _)); refine blk_far ?_ NB990_996.out _; (with_reducible repeat (first | refine blk_drewN ?_ _ | refine blk_drew ?_ | refine blk_alloc ?_ _)); exact BK990.out) hb); have n3_ := Aside0.mk (blk_below (g := gb996) (o := .cells #[.int .i64 t992, .slice Ao42 t993.length co42] 24 (0, 0)) (by (with_reducible repeat (first | refine blk_drewN ?_ _ | refine blk_drew ?_ | refine blk_alloc ?_ _)); refine blk_put (cs := #[.int .i64 t992, .slice none 0 0]) ?_ 1 _ rfl; (with_reducible repeat (first | refine blk_drewN ?_ _ | refine blk_drew ?_ | refine blk_alloc ?_ _)); refine blk_put (cs := #[.int .i64 0, .slice none 0 0]) ?_ 0 _ rfl; (with_reducible repeat (first | refine blk_drewN ?_ _ | refine blk_drew ?_ | refine blk_alloc ?_ _)); exact BK996.out) hb); have n4_ := Aside0.mk (below_step (by repeat (first | (with_reducible first | exact HB.out | apply below_alloc | apply pw_below_drewN | apply below_drew1 | refine below_set ?_ GE990.out | refine below_set ?_ GE996.out) | exact HB.out)) hb); clear HO_991001; clear HO995; clear BK990; clear BK996; clear HB; have HO_991001 := n0_; have HO995 := n1_; have BK990 := n2_; have BK996 := n3_; have HB := n4_; clear n0_ n1_ n2_ n3_ n4_; (try clear hb); (try clear hb2); (try clear hk); (try clear hi)) | ((with_reducible refine gate_dst (N := 8) rfl ?_); (try (refine gate_guard (by rfl) ?_; dsimp only)); refine box_event ?hg (N := 8) ?hd (cs := #[.int .i64 0, .int .i64 0]) (t := 46) ?hr ?_; (case hd => rfl); (case hg => rfl); (case hr => first | (go_simp; done) | (go_simp; rfl)); intro gb999 hg w44 hbox hb; have n0_ := Aside0.mk (Kd.R_below (by (with_reducible repeat (first | apply Kd.R_alloc | apply Kd.R_drewN | apply Kd.R_drew)); exact HO_991001.out) hb); have n1_ := Aside0.mk (Kd.R_below (by (with_reducible repeat (first | apply Kd.R_alloc | apply Kd.R_drewN | apply Kd.R_drew)); exact HO995.out) hb); have n2_ := Aside0.mk (blk_below (g := gb990) (o := .cells #[.int .i64 t986, .slice Ao27 t987.length co27] 24 (0, 0)) (by (with_reducible repeat (first | refine blk_drewN ?_ _ | refine blk_drew ?_ | refine blk_alloc ?_ _)); exact BK990.out) hb); have n3_ := Aside0.mk (blk_below (g := gb996) (o := .cells #[.int .i64 t992, .slice Ao42 t993.length co42] 24 (0, 0)) (by (with_reducible repeat (first | refine blk_drewN ?_ _ | refine blk_drew ?_ | refine blk_alloc ?_ _)); exact BK996.out) hb); have n4_ := Aside0.mk (below_step (by repeat (first | (with_reducible first | exact HB.out | apply below_alloc | apply pw_below_drewN | apply below_drew1 | refine below_set ?_ GE990.out | refine below_set ?_ GE996.out) | exact HB.out)) hb); have n5_ := Aside0.mk (hbox); have n6_ := Aside0.mk ((by rw [hg]; exact (below_size (by repeat (first | (with_reducible first | exact HB.out | apply below_alloc | apply pw_below_drewN | apply below_drew1 | refine below_set ?_ GE990.out | refine below_set ?_ GE996.out) | exact HB.out))) : w.heap.size ≤ gb999)); have n7_ := Aside0.mk ((by rw [hg]; exact (below_size (by repeat (first | (with_reducible first | exact HB.out | apply below_alloc | apply pw_below_drewN | apply below_drew1 | refine below_set ?_ GE990.out | refine below_set ?_ GE996.out) | exact HB.out))) : w.heap.size ≤ gb999)); have n8_ := Aside0.mk ((by rw [hg]; exact Nat.ne_of_lt (blk_lt (g := gb990) (o := .cells #[.int .i64 t986, .slice Ao27 t987.length co27] 24 (0, 0)) (by (with_reducible repeat (first | refine blk_drewN ?_ _ | refine blk_drew ?_ | refine blk_alloc ?_ _)); exact BK990.out)) : gb990 ≠ gb999)); have n9_ := Aside0.mk ((by rw [hg]; exact Nat.ne_of_gt (blk_lt (g := gb990) (o := .cells #[.int .i64 t986, .slice Ao27 t987.length co27] 24 (0, 0)) (by (with_reducible repeat (first | refine blk_drewN ?_ _ | refine blk_drew ?_ | refine blk_alloc ?_ _)); exact BK990.out)) : gb999 ≠ gb990)); have n10_ := Aside0.mk ((by rw [hg]; exact Nat.ne_of_lt (blk_lt (g := gb996) (o := .cells #[.int .i64 t992, .slice Ao42 t993.length co42] 24 (0, 0)) (by (with_reducible repeat (first | refine blk_drewN ?_ _ | refine blk_drew ?_ | refine blk_alloc ?_ _)); exact BK996.out)) : gb996 ≠ gb999)); have n11_ := Aside0.mk ((by rw [hg]; exact Nat.ne_of_gt (blk_lt (g := gb996) (o := .cells #[.int .i64 t992, .slice Ao42 t993.length co42] 24 (0, 0)) (by (with_reducible repeat (first | refine blk_drewN ?_ _ | refine blk_drew ?_ | refine blk_alloc ?_ _)); exact BK996.out)) : gb999 ≠ gb996)); clear HO_991001; clear HO995; clear BK990; clear BK996; clear HB; have HO_991001 := n0_; have HO995 := n1_; have BK990 := n2_; have BK996 := n3_; have HB := n4_; have BK999 := n5_; have GW999 := n6_; have GE999 := n7_; have NB990_999 := n8_; have NB999_990 := n9_; have NB996_999 := n10_; have NB999_996 := n11_; clear n0_ n1_ n2_ n3_ n4_ n5_ n6_ n7_ n8_ n9_ n10_ n11_; clear hb hbox hg; have hnb45 := NB999_990.out; have hnc45 := NB990_999.out; have hnb46 := NB999_996.out; have hnc46 := NB996_999.out; have hcz47_0 : w44.cell? ⟨gb999, 0, none⟩ = some (.int .i64 0) := (blk_cell BK999.out 0).trans (by first | rfl | (simp only [*] <;> rfl)); have hcz47_1 : w44.cell? ⟨gb999, 1, none⟩ = some (.int .i64 0) := (blk_cell BK999.out 1).trans (by first | rfl | (simp only [*] <;> rfl)); have hfz47_0 := blk_frozen BK999.out 0; have hfz47_1 := blk_frozen BK999.out 1; have hcz48_0 : w44.cell? ⟨gb996, 0, none⟩ = some (.int .i64 t992) := (blk_cell BK996.out 0).trans (by first | rfl | (simp only [*] <;> rfl)); have hcz48_1 : w44.cell? ⟨gb996, 1, none⟩ = some (.slice Ao42 t993.length co42) := (blk_cell BK996.out 1).trans (by first | rfl | (simp only [*] <;> rfl)); have hfz48_0 := blk_frozen BK996.out 0; have hfz48_1 := blk_frozen BK996.out 1))
                      go_ret
                      exact ⟨by first | rfl | (simp [errW_none, errW_some] <;> rfl) | (simp [*, errW_none, errW_some] <;> rfl), by repeat (first | (with_reducible first | exact HB.out | apply below_alloc | apply pw_below_drewN | apply below_drew1 | refine below_set ?_ GE990.out | refine below_set ?_ GE996.out | refine below_set ?_ GE999.out) | exact HB.out)⟩
                    · rw [if_neg c37] at H
                      exact absurd H (by simp)
                  · rw [if_neg c36] at H
                    exact absurd H (by simp)
                · rw [if_neg c34] at H
                  have c34b0 : (t992 == 0) = false := beq_eq_false_iff_ne.mpr c34
                  have c34b1 : (t992 != 0) = true := bne_iff_ne.mpr c34
                  replace H := Option.bind_eq_some_iff.mp H
                  obtain ⟨⟨t1000, t1001⟩, A490, H⟩ := H
                  replace H : (some (t1000 == t992)) = some r := H
                  have A49 := Aside0.mk A490
                  clear A490
                  obtain rfl := Option.some.inj H
                  try go_wp2_with (first | ((with_reducible refine gate_callee (f := 33) rfl ?_); refine goesL_ (some 49) rfl rfl Try.func33 (by kernel_rfl) rfl #[.int .i64 t974] rfl (by (try simp only [List.map_toArray, List.map_cons, List.map_nil]); first | done | rfl | (simp only [List.length_drop, List.length_take]; rfl)) ?_; (with_reducible refine (impl_PutNumber.calls kj20 t974 t992 t993 _ A33.out).mono ?_); rintro e w50 ⟨v994, rfl, ho0, hb⟩; refine ⟨_, rfl, ?_⟩; have n0_ := Aside0.mk (Kd.R_elder' (by (with_reducible repeat (first | apply Kd.R_alloc | apply Kd.R_drewN | apply Kd.R_drew)); exact HO_991001.out) (Kd.R_base ho0) hb); have n1_ := Aside0.mk (Kd.R_lower (Kd.R_new' ho0 (Kd.R_lt (by (with_reducible repeat (first | apply Kd.R_alloc | apply Kd.R_drewN | apply Kd.R_drew)); exact HO_991001.out))) (below_size (by repeat (first | (with_reducible first | exact HB.out | apply below_alloc | apply pw_below_drewN | apply below_drew1 | refine below_set ?_ GE990.out) | exact HB.out)))); have n2_ := Aside0.mk (blk_below (g := gb990) (o := .cells #[.int .i64 t986, .slice Ao27 t987.length co27] 24 (0, 0)) (by (with_reducible repeat (first | refine blk_drewN ?_ _ | refine blk_drew ?_ | refine blk_alloc ?_ _)); exact BK990.out) hb); have n3_ := Aside0.mk (below_step (by repeat (first | (with_reducible first | exact HB.out | apply below_alloc | apply pw_below_drewN | apply below_drew1 | refine below_set ?_ GE990.out) | exact HB.out)) hb); clear HO_991001; clear BK990; clear HB; have HO_991001 := n0_; have HO995 := n1_; have BK990 := n2_; have HB := n3_; clear n0_ n1_ n2_ n3_; (try clear hb); (try clear hb2); (try clear hk); (try clear hi); (try clear ho0)) | ((with_reducible refine gate_dst (N := 7) rfl ?_); (try (refine gate_guard (by rfl) ?_; dsimp only)); refine box_event ?hg (N := 7) ?hd (cs := #[.int .i64 0, .slice none 0 0]) (t := 24) ?hr ?_; (case hd => rfl); (case hg => rfl); (case hr => first | (go_simp; done) | (go_simp; rfl)); intro gb996 hg w51 hbox hb; have n0_ := Aside0.mk (Kd.R_below (by (with_reducible repeat (first | apply Kd.R_alloc | apply Kd.R_drewN | apply Kd.R_drew)); exact HO_991001.out) hb); have n1_ := Aside0.mk (Kd.R_below (by (with_reducible repeat (first | apply Kd.R_alloc | apply Kd.R_drewN | apply Kd.R_drew)); exact HO995.out) hb); have n2_ := Aside0.mk (blk_below (g := gb990) (o := .cells #[.int .i64 t986, .slice Ao27 t987.length co27] 24 (0, 0)) (by (with_reducible repeat (first | refine blk_drewN ?_ _ | refine blk_drew ?_ | refine blk_alloc ?_ _)); exact BK990.out) hb); have n3_ := Aside0.mk (below_step (by repeat (first | (with_reducible first | exact HB.out | apply below_alloc | apply pw_below_drewN | apply below_drew1 | refine below_set ?_ GE990.out) | exact HB.out)) hb); have n4_ := Aside0.mk (hbox); have n5_ := Aside0.mk ((by rw [hg]; exact (below_size (by repeat (first | (with_reducible first | exact HB.out | apply below_alloc | apply pw_below_drewN | apply below_drew1 | refine below_set ?_ GE990.out) | exact HB.out))) : w.heap.size ≤ gb996)); have n6_ := Aside0.mk ((by rw [hg]; exact (below_size (by repeat (first | (with_reducible first | exact HB.out | apply below_alloc | apply pw_below_drewN | apply below_drew1 | refine below_set ?_ GE990.out) | exact HB.out))) : w.heap.size ≤ gb996)); have n7_ := Aside0.mk ((by rw [hg]; exact Nat.ne_of_lt (blk_lt (g := gb990) (o := .cells #[.int .i64 t986, .slice Ao27 t987.length co27] 24 (0, 0)) (by (with_reducible repeat (first | refine blk_drewN ?_ _ | refine blk_drew ?_ | refine blk_alloc ?_ _)); exact BK990.out)) : gb990 ≠ gb996)); have n8_ := Aside0.mk ((by rw [hg]; exact Nat.ne_of_gt (blk_lt (g := gb990) (o := .cells #[.int .i64 t986, .slice Ao27 t987.length co27] 24 (0, 0)) (by (with_reducible repeat (first | refine blk_drewN ?_ _ | refine blk_drew ?_ | refine blk_alloc ?_ _)); exact BK990.out)) : gb996 ≠ gb990)); clear HO_991001; clear HO995; clear BK990; clear HB; have HO_991001 := n0_; have HO995 := n1_; have BK990 := n2_; have HB := n3_; have BK996 := n4_; have GW996 := n5_; have GE996 := n6_; have NB990_996 := n7_; have NB996_990 := n8_; clear n0_ n1_ n2_ n3_ n4_ n5_ n6_ n7_ n8_; clear hb hbox hg; have hnb52 := NB996_990.out; have hnc52 := NB990_996.out; have hcz53_0 : w51.cell? ⟨gb996, 0, none⟩ = some (.int .i64 0) := (blk_cell BK996.out 0).trans (by first | rfl | (simp only [*] <;> rfl)); have hcz53_1 : w51.cell? ⟨gb996, 1, none⟩ = some (.slice none 0 0) := (blk_cell BK996.out 1).trans (by first | rfl | (simp only [*] <;> rfl)); have hfz53_0 := blk_frozen BK996.out 0; have hfz53_1 := blk_frozen BK996.out 1; obtain ⟨Ao54, co54, eo54⟩ := Kd.R_slice HO995.out; subst eo54))
                  have n0_ : Aside0 (Kd.R (Kd.int .u8) 5 ((w51.setCell ⟨gb996, 0, none⟩ (.int .i64 t992)).setCell ⟨gb996, 1, none⟩ (.slice Ao54 t993.length co54)) w.heap.size (fun k_ => some k_ ≠ (.slice Ao54 t993.length co54 : Value).ownBlock) (.slice Ao27 t987.length co27) t987) := ⟨by (with_reducible repeat (first | apply Kd.R_alloc | apply Kd.R_drewN | apply Kd.R_drew)); exact Kd.R_mono (Kd.R_far (p := ⟨gb996, 1, none⟩) (Kd.R_far (p := ⟨gb996, 0, none⟩) (Kd.R_types HO_991001.out BK996.out (by decide)) (fun _ hk => hk.2) (.int .i64 t992)) (fun _ hk => hk.2) (.slice Ao54 t993.length co54)) (fun _ hk => hk.1.2)⟩
                  have n1_ : Aside0 (Kd.R (Kd.int .u8) 5 ((w51.setCell ⟨gb996, 0, none⟩ (.int .i64 t992)).setCell ⟨gb996, 1, none⟩ (.slice Ao54 t993.length co54)) w.heap.size (fun k_ => some k_ ≠ (.slice Ao27 t987.length co27 : Value).ownBlock) (.slice Ao54 t993.length co54) t993) := ⟨by (with_reducible repeat (first | apply Kd.R_alloc | apply Kd.R_drewN | apply Kd.R_drew)); exact Kd.R_mono (Kd.R_far (p := ⟨gb996, 1, none⟩) (Kd.R_far (p := ⟨gb996, 0, none⟩) (Kd.R_types HO995.out BK996.out (by decide)) (fun _ hk => hk.2) (.int .i64 t992)) (fun _ hk => hk.2) (.slice Ao54 t993.length co54)) (fun _ hk => hk.1.2)⟩
                  have n2_ : Aside0 (((w51.setCell ⟨gb996, 0, none⟩ (.int .i64 t992)).setCell ⟨gb996, 1, none⟩ (.slice Ao54 t993.length co54)).heap[gb990]? = some (.cells #[.int .i64 t986, .slice Ao27 t987.length co27] 24 (0, 0))) := ⟨by (with_reducible repeat (first | refine blk_drewN ?_ _ | refine blk_drew ?_ | refine blk_alloc ?_ _)); refine blk_far ?_ NB990_996.out _; (with_reducible repeat (first | refine blk_drewN ?_ _ | refine blk_drew ?_ | refine blk_alloc ?_ _)); refine blk_far ?_ NB990_996.out _; (with_reducible repeat (first | refine blk_drewN ?_ _ | refine blk_drew ?_ | refine blk_alloc ?_ _)); exact BK990.out⟩
                  have n3_ : Aside0 (((w51.setCell ⟨gb996, 0, none⟩ (.int .i64 t992)).setCell ⟨gb996, 1, none⟩ (.slice Ao54 t993.length co54)).heap[gb996]? = some (.cells #[.int .i64 t992, .slice Ao54 t993.length co54] 24 (0, 0))) := ⟨by (with_reducible repeat (first | refine blk_drewN ?_ _ | refine blk_drew ?_ | refine blk_alloc ?_ _)); refine blk_put (cs := #[.int .i64 t992, .slice none 0 0]) ?_ 1 _ rfl; (with_reducible repeat (first | refine blk_drewN ?_ _ | refine blk_drew ?_ | refine blk_alloc ?_ _)); refine blk_put (cs := #[.int .i64 0, .slice none 0 0]) ?_ 0 _ rfl; (with_reducible repeat (first | refine blk_drewN ?_ _ | refine blk_drew ?_ | refine blk_alloc ?_ _)); exact BK996.out⟩
                  have n4_ : Aside0 (Below w.heap.size w ((w51.setCell ⟨gb996, 0, none⟩ (.int .i64 t992)).setCell ⟨gb996, 1, none⟩ (.slice Ao54 t993.length co54))) := ⟨by repeat (first | (with_reducible first | exact HB.out | apply below_alloc | apply pw_below_drewN | apply below_drew1 | refine below_set ?_ GE990.out | refine below_set ?_ GE996.out) | exact HB.out)⟩
                  (try clear HO_991001)
                  (try clear HO995)
                  (try clear BK990)
                  (try clear BK996)
                  (try clear HB)
                  generalize ((w51.setCell ⟨gb996, 0, none⟩ (.int .i64 t992)).setCell ⟨gb996, 1, none⟩ (.slice Ao54 t993.length co54)) = w55 at n0_ n1_ n2_ n3_ n4_ ⊢
                  have HO_991001 := n0_
                  have HO995 := n1_
                  have BK990 := n2_
                  have BK996 := n3_
                  have HB := n4_
                  clear n0_ n1_ n2_ n3_ n4_
                  have n0_ := Aside0.mk (Kd.R_drew HO_991001.out)
                  have n1_ := Aside0.mk (Kd.R_drew HO995.out)
                  have n2_ := Aside0.mk (blk_drew BK990.out)
                  have n3_ := Aside0.mk (blk_drew BK996.out)
                  have n4_ := Aside0.mk (below_drew1 HB.out)
                  clear HO_991001
                  clear HO995
                  clear BK990
                  clear BK996
                  clear HB
                  have HO_991001 := n0_
                  have HO995 := n1_
                  have BK990 := n2_
                  have BK996 := n3_
                  have HB := n4_
                  clear n0_ n1_ n2_ n3_ n4_
                  refine start_ (n := 7) (S := fun w' => w'.cell? ⟨gb996, 0, none⟩ = some (.int .i64 t992) ∧ w'.cell? ⟨gb996, 1, none⟩ = some (.slice Ao54 t993.length co54)) (ds := []) #[false, false, false, false, false, false, false] (by kernel_rfl) rfl rfl ⟨(blk_cell BK996.out 0).trans (by first | rfl | (simp only [*] <;> rfl)), (blk_cell BK996.out 1).trans (by first | rfl | (simp only [*] <;> rfl))⟩ (fun hHeld => ?_)
                  generalize w55.drew = w56 at HO_991001 HO995 BK990 BK996 HB hHeld ⊢
                  refine pure_ (i := 0) (N := some 53) (v := ?_) (a' := ?_) #[true, false, false, false, false, false, false] rfl rfl (by kernel_rfl) (fun _ _ _ h => h) (Or.inl ⟨by rfl, ?_⟩) ?_ ?_
                  rotate_left
                  · intro w'
                    go_simp
                    with_reducible rfl
                  rotate_left
                  · simp only [Act.put, List.setIfInBounds_toArray, List.set_cons_zero, List.set_cons_succ, i64_w, i32_w]
                    rfl
                  refine pure_ (i := 3) (N := some 56) (v := ?_) (a' := ?_) #[true, false, false, true, false, false, false] rfl rfl (by kernel_rfl) (fun _ _ _ h => h) (Or.inl ⟨by rfl, ?_⟩) ?_ ?_
                  rotate_left
                  · intro w'
                    go_simp
                    with_reducible rfl
                  rotate_left
                  · simp only [Act.put, List.setIfInBounds_toArray, List.set_cons_zero, List.set_cons_succ, i64_w, i32_w]
                    rfl
                  refine take_ (i := 4) (N := some 57) (v := ?_) (a' := ?_) #[true, false, false, true, true, false, false] rfl rfl (by kernel_rfl) (fun _ _ _ h => h) (Or.inl ⟨by rfl, ?_⟩) hHeld ?_ ?_
                  rotate_left
                  · rintro w' ⟨s0, s1⟩
                    go_simp
                    with_reducible rfl
                  rotate_left
                  · simp only [Act.put, List.setIfInBounds_toArray, List.set_cons_zero, List.set_cons_succ, i64_w, i32_w]
                    rfl
                  refine one_ (i := 1) (N := some 54) #[true, true, false, true, true, false, false] rfl rfl (by kernel_rfl) (by decide) (fun K hK => ?_)
                  refine goes_ Try.func34 (by kernel_rfl) rfl #[.int .i64 t974] (by rfl) rfl rfl (by (try simp only [List.map_toArray, List.map_cons, List.map_nil]); first | done | rfl | (simp only [List.length_drop, List.length_take]; rfl)) ?_
                  with_reducible refine (spec_PutNumber.calls kj20 t974 t1000 t1001 _ A49.out).mono ?_
                  rintro e w57 ⟨v1002, rfl, ho0, hb⟩
                  refine ⟨_, rfl, ?_⟩
                  have n0_ := Aside0.mk (Kd.R_elder' (by (with_reducible repeat (first | apply Kd.R_alloc | apply Kd.R_drewN | apply Kd.R_drew)); exact HO_991001.out) (Kd.R_base ho0) hb)
                  have n1_ := Aside0.mk (Kd.R_elder' (by (with_reducible repeat (first | apply Kd.R_alloc | apply Kd.R_drewN | apply Kd.R_drew)); exact HO995.out) (Kd.R_base ho0) hb)
                  have n2_ := Aside0.mk (Kd.R_lower (Kd.R_new' (Kd.R_new' ho0 (Kd.R_lt (by (with_reducible repeat (first | apply Kd.R_alloc | apply Kd.R_drewN | apply Kd.R_drew)); exact HO_991001.out))) (Kd.R_lt (by (with_reducible repeat (first | apply Kd.R_alloc | apply Kd.R_drewN | apply Kd.R_drew)); exact HO995.out))) (below_size (by repeat (first | (with_reducible first | exact HB.out | apply below_alloc | apply pw_below_drewN | apply below_drew1 | refine below_set ?_ GE990.out | refine below_set ?_ GE996.out) | exact HB.out))))
                  have n3_ := Aside0.mk (blk_below (g := gb990) (o := .cells #[.int .i64 t986, .slice Ao27 t987.length co27] 24 (0, 0)) (by (with_reducible repeat (first | refine blk_drewN ?_ _ | refine blk_drew ?_ | refine blk_alloc ?_ _)); exact BK990.out) hb)
                  have n4_ := Aside0.mk (blk_below (g := gb996) (o := .cells #[.int .i64 t992, .slice Ao54 t993.length co54] 24 (0, 0)) (by (with_reducible repeat (first | refine blk_drewN ?_ _ | refine blk_drew ?_ | refine blk_alloc ?_ _)); exact BK996.out) hb)
                  have n5_ := Aside0.mk (below_step (by repeat (first | (with_reducible first | exact HB.out | apply below_alloc | apply pw_below_drewN | apply below_drew1 | refine below_set ?_ GE990.out | refine below_set ?_ GE996.out) | exact HB.out)) hb)
                  clear HO_991001
                  clear HO995
                  clear BK990
                  clear BK996
                  clear HB
                  have HO_991001 := n0_
                  have HO995 := n1_
                  have HO1003 := n2_
                  have BK990 := n3_
                  have BK996 := n4_
                  have HB := n5_
                  clear n0_ n1_ n2_ n3_ n4_ n5_
                  (try clear hb)
                  (try clear hb2)
                  (try clear hk)
                  (try clear hi)
                  (try clear ho0)
                  refine hK.out _ _ ⟨(blk_cell BK996.out 0).trans (by first | rfl | (simp only [*] <;> rfl)), (blk_cell BK996.out 1).trans (by first | rfl | (simp only [*] <;> rfl))⟩ (fun hHeld => ?_)
                  clear hK K
                  refine norm_ (a' := ?_) ?_ ?_
                  rotate_left
                  · show Act.put _ (some 54) _ = _
                    simp only [Act.put, List.setIfInBounds_toArray, List.set_cons_zero, List.set_cons_succ, i64_w, i32_w]
                    rfl
                  refine pure_ (i := 2) (N := some 55) (v := ?_) (a' := ?_) #[true, true, true, true, true, false, false] rfl rfl (by kernel_rfl) (fun _ _ _ h => h) (Or.inl ⟨by rfl, ?_⟩) ?_ ?_
                  rotate_left
                  · intro w'
                    go_simp
                    with_reducible rfl
                  rotate_left
                  · simp only [Act.put, List.setIfInBounds_toArray, List.set_cons_zero, List.set_cons_succ, i64_w, i32_w]
                    rfl
                  refine pure_ (i := 5) (N := some 58) (v := ?_) (a' := ?_) #[true, true, true, true, true, true, false] rfl rfl (by kernel_rfl) (fun _ _ _ h => h) (Or.inl ⟨by rfl, ?_⟩) ?_ ?_
                  rotate_left
                  · intro w'
                    go_simp
                    with_reducible rfl
                  rotate_left
                  · simp only [Act.put, List.setIfInBounds_toArray, List.set_cons_zero, List.set_cons_succ, i64_w, i32_w]
                    rfl
                  refine pure_ (i := 6) (N := some 2) (v := ?_) (a' := ?_) #[true, true, true, true, true, true, true] rfl rfl (by kernel_rfl) (fun _ _ _ h => h) (Or.inl ⟨by rfl, ?_⟩) ?_ ?_
                  rotate_left
                  · intro w'
                    go_simp
                    with_reducible rfl
                  rotate_left
                  · simp only [Act.put, List.setIfInBounds_toArray, List.set_cons_zero, List.set_cons_succ, i64_w, i32_w]
                    rfl
                  refine done_ (by kernel_rfl) ?_
                  try go_wp2
                  go_ret
                  exact ⟨by first | rfl | (simp [errW_none, errW_some] <;> rfl) | (simp [*, errW_none, errW_some] <;> rfl), by repeat (first | (with_reducible first | exact HB.out | apply below_alloc | apply pw_below_drewN | apply below_drew1 | refine below_set ?_ GE990.out | refine below_set ?_ GE996.out) | exact HB.out)⟩

/-- THE ONE PURE STATEMENT of laws_FnNumbers: yours. -/
def laws_FnNumbers.Pure : Prop := ∀ (l0 : List Int), l0.length ≤ maxLen → l0.length * 1 ≤ 140737488351232 → (∀ x ∈ l0, (Lit.int .u8 x).wf = true) → ∃ k, laws_FnNumbers.f k l0 = some true
theorem laws_FnNumbers.walk (P : laws_FnNumbers.Pure) (a0 : Option Addr) (len0 cap0 : Nat) (z0 : List Int) (w : World) (w0 : (a0 = none ∧ len0 = 0 ∧ cap0 = 0 ∧ z0 = []) ∨ ∃ x, a0 = some x ∧ len0 ≤ cap0 ∧ cap0 ≤ maxLen ∧ z0.length = cap0 ∧ (∀ i, i < z0.length → w.cell? (x.add i) = some (.int .u8 (z0.getD i 0))) ∧ ∀ n ∈ z0, (Lit.int .u8 n).wf = true) (y0 : len0 * 1 ≤ 140737488351232) :
    Calls Try.prog 5 #[.slice a0 len0 cap0] w fun e w' => e = .returned (.bool true) ∧ Below w.heap.size w w' := by
  obtain ⟨l0, rfl, hr0, hm0, hw0, hc0⟩ := ReadsInt.ofRowC w0
  obtain ⟨k, h⟩ := P l0 hm0 y0 hw0
  refine (laws_FnNumbers.calls k _ _ l0 true w (Kd.C_of_reads (d := (0 : Int)) (h1 := fun _ => rfl) hr0) hc0 h).mono ?_
  rintro e w' ⟨rfl, hd⟩
  exact ⟨rfl, hd⟩

end Go.Proofs.Ytmmhghddldhogaa.S
