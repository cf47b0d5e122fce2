/- Each function of the program that stands below is a plain Lean function, and the call of the program comes to what that function says. No condition beyond those in the statements. -/
import Derived.Test.YtmmhghddldhogaaSx0
import Derived.Test.YtmmhghddldhogaaSxLawsHelp
import Derived.Test.YtmmhghddldhogaaSxSpecPackWords
import Derived.Test.YtmmhghddldhogaaSxImplPackWords
import Derived.Test.YtmmhghddldhogaaSxSpecUnpackWords
import Derived.Test.YtmmhghddldhogaaSxImplUnpackWords
import Derived.Test.YtmmhghddldhogaaSxSpecDrawPackWords
import Derived.Test.YtmmhghddldhogaaSxSpecDrawUnpackWords
namespace Go.Proofs.Ytmmhghddldhogaa.S
open Go.RowKit Go.Proofs.YtmmhghddldhogaaW.PrintWords Go.Proofs.YtmmhghddldhogaaW.PrintLast Go.Proofs.YtmmhghddldhogaaW.PrintMore
attribute [local go_sem] max2_int min2_int max_two min_two max_three min_three max_four min_four   -- for this text's walks alone
set_option linter.unusedVariables false
set_option linter.unusedSimpArgs false

/-! ### laws_FnWords: function 8 -/
mutual
def laws_FnWords.j0 : Nat → List Int → List (List Int) → Bool → Int → Int → List (List Int) → Option (Bool)
  | 0, _, _, _, _, _, _ => none
  | k + 1, x0, x3, x37, x1101000, x1101001, x1101002 => if x37 = true then (none) else (laws_FnWords.l0 k x0 x3 0 x1101000 x1101001 x1101002)
def laws_FnWords.l0 : Nat → List Int → List (List Int) → Int → Int → Int → List (List Int) → Option (Bool)
  | 0, _, _, _, _, _, _ => none
  | k + 1, x0, x3, x6, x1101000, x1101001, x1101002 => if x6 < (x3.length : Int) then (if 0 ≤ x6 then (if x6 < (x1101002.length : Int) then ((laws_lwBytes.f (rd_L2 x1101002 x6) (rd_L2 x3 x6)).bind fun t1103 => (if t1103 = true then (laws_FnWords.l0 k x0 x3 (wrap64 (x6 + 1)) x1101000 x1101001 x1101002) else (none))) else (none)) else (none)) else ((spec_DrawUnpackWords.f k x0).bind fun t1104 => ((impl_UnpackWords.f k t1104).bind fun bt1107 => (if bt1107.1 = 0 then ((impl_PackWords.f k bt1107.2.2).bind fun bt1113 => ((laws_lwBytes.f bt1113.2 t1104).bind fun t1117 => (some t1117))) else ((spec_UnpackWords.f k t1104).bind fun bt1118 => (if bt1118.1 = bt1107.1 then (some (decide (bt1107.2.1 ≤ (t1104.length : Int)))) else (none))))))
end
def laws_FnWords.f (k : Nat) (l0 : List Int) : Option (Bool) := (laws_lwBig.f l0).bind fun t1082 => (if t1082 = true then (some true) else ((spec_DrawPackWords.f k l0).bind fun t1083 => ((impl_PackWords.f k t1083).bind fun bt1086 => (if bt1086.1 = 0 then ((impl_UnpackWords.f k bt1086.2).bind fun bt1095 => (if bt1095.1 = 0 then (laws_FnWords.j0 k l0 t1083 ((bt1095.2.2.length : Int) != (t1083.length : Int)) bt1095.1 bt1095.2.1 bt1095.2.2) else (laws_FnWords.j0 k l0 t1083 true bt1095.1 bt1095.2.1 bt1095.2.2))) else ((spec_PackWords.f k t1083).bind fun bt1091 => (some (bt1091.1 == bt1086.1)))))))
theorem laws_FnWords.mono_l : ∀ k, (∀ y0 y1 y2 y3 y4 y5, LeO (laws_FnWords.j0 k y0 y1 y2 y3 y4 y5) (laws_FnWords.j0 (k + 1) y0 y1 y2 y3 y4 y5)) ∧ (∀ y0 y1 y2 y3 y4 y5, LeO (laws_FnWords.l0 k y0 y1 y2 y3 y4 y5) (laws_FnWords.l0 (k + 1) y0 y1 y2 y3 y4 y5))
  | 0 => ⟨fun _ _ _ _ _ _ r h => by simp [laws_FnWords.j0] at h, fun _ _ _ _ _ _ r h => by simp [laws_FnWords.l0] at h⟩
  | k + 1 => by
    obtain ⟨ih0, ih1⟩ := laws_FnWords.mono_l k
    refine ⟨?_, ?_⟩
    · intro y0 y1 y2 y3 y4 y5
      unfold laws_FnWords.j0
      repeat' first
      | (with_reducible exact ih0 _ _ _ _ _ _)
      | (with_reducible exact ih1 _ _ _ _ _ _)
      | (with_reducible exact impl_PackWords.mono _ _)
      | (with_reducible exact impl_UnpackWords.mono _ _)
      | (with_reducible exact spec_DrawPackWords.mono _ _)
      | (with_reducible exact spec_DrawUnpackWords.mono _ _)
      | (with_reducible exact spec_PackWords.mono _ _)
      | (with_reducible exact spec_UnpackWords.mono _ _)
      | (with_reducible exact LeO.refl _)
      | (with_reducible exact LeO.none _)
      | (with_reducible refine LeO.ite ?_ ?_)
      | (with_reducible refine LeO.bind ?_ (fun _ => ?_))
      | exact ih0 _ _ _ _ _ _
      | exact ih1 _ _ _ _ _ _
      | exact impl_PackWords.mono _ _
      | exact impl_UnpackWords.mono _ _
      | exact spec_DrawPackWords.mono _ _
      | exact spec_DrawUnpackWords.mono _ _
      | exact spec_PackWords.mono _ _
      | exact spec_UnpackWords.mono _ _
      | exact LeO.none _
      | refine LeO.ite ?_ ?_
      | refine LeO.bind ?_ (fun _ => ?_)
    · intro y0 y1 y2 y3 y4 y5
      unfold laws_FnWords.l0
      repeat' first
      | (with_reducible exact ih0 _ _ _ _ _ _)
      | (with_reducible exact ih1 _ _ _ _ _ _)
      | (with_reducible exact impl_PackWords.mono _ _)
      | (with_reducible exact impl_UnpackWords.mono _ _)
      | (with_reducible exact spec_DrawPackWords.mono _ _)
      | (with_reducible exact spec_DrawUnpackWords.mono _ _)
      | (with_reducible exact spec_PackWords.mono _ _)
      | (with_reducible exact spec_UnpackWords.mono _ _)
      | (with_reducible exact LeO.refl _)
      | (with_reducible exact LeO.none _)
      | (with_reducible refine LeO.ite ?_ ?_)
      | (with_reducible refine LeO.bind ?_ (fun _ => ?_))
      | exact ih0 _ _ _ _ _ _
      | exact ih1 _ _ _ _ _ _
      | exact impl_PackWords.mono _ _
      | exact impl_UnpackWords.mono _ _
      | exact spec_DrawPackWords.mono _ _
      | exact spec_DrawUnpackWords.mono _ _
      | exact spec_PackWords.mono _ _
      | exact spec_UnpackWords.mono _ _
      | exact LeO.none _
      | refine LeO.ite ?_ ?_
      | refine LeO.bind ?_ (fun _ => ?_)
theorem laws_FnWords.mono : ∀ a0 k, LeO (laws_FnWords.f k a0) (laws_FnWords.f (k + 1) a0) := by
  intro a0 k
  obtain ⟨ih0, ih1⟩ := laws_FnWords.mono_l k
  unfold laws_FnWords.f
  repeat' first
      | (with_reducible exact ih0 _ _ _ _ _ _)
      | (with_reducible exact ih1 _ _ _ _ _ _)
      | (with_reducible exact impl_PackWords.mono _ _)
      | (with_reducible exact impl_UnpackWords.mono _ _)
      | (with_reducible exact spec_DrawPackWords.mono _ _)
      | (with_reducible exact spec_DrawUnpackWords.mono _ _)
      | (with_reducible exact spec_PackWords.mono _ _)
      | (with_reducible exact spec_UnpackWords.mono _ _)
      | (with_reducible exact LeO.refl _)
      | (with_reducible exact LeO.none _)
      | (with_reducible refine LeO.ite ?_ ?_)
      | (with_reducible refine LeO.bind ?_ (fun _ => ?_))
      | exact ih0 _ _ _ _ _ _
      | exact ih1 _ _ _ _ _ _
      | exact impl_PackWords.mono _ _
      | exact impl_UnpackWords.mono _ _
      | exact spec_DrawPackWords.mono _ _
      | exact spec_DrawUnpackWords.mono _ _
      | exact spec_PackWords.mono _ _
      | exact spec_UnpackWords.mono _ _
      | exact LeO.none _
      | refine LeO.ite ?_ ?_
      | refine LeO.bind ?_ (fun _ => ?_)
def laws_FnWords.T13 : Bool × List (List Nat × List Nat) := (true, [([], []), ([0], [0]), ([], []), ([1, 2], [1, 2]), ([3], [3]), ([], []), ([], []), ([5, 6], [5, 6]), ([7], [7]), ([4, 8], [4, 8]), ([9], [9])])
def laws_FnWords.B13 : List Nat := [0, 1, 0, 7, 15, 0, 0, 96, 224, 511, 1023]
theorem laws_FnWords.tab13 : rtab .any (opsOf Try.f8 13) = laws_FnWords.T13 := by kernel_rfl
theorem laws_FnWords.bits13 : waitsOk laws_FnWords.T13.2 laws_FnWords.B13 = true := by kernel_rfl
def laws_FnWords.T18 : Bool × List (List Nat × List Nat) := (true, [([], []), ([0], [0]), ([1], [1]), ([], []), ([3], [3]), ([2, 4], [2, 4]), ([5, 1], [5]), ([6], [6]), ([7, 6], [6, 7]), ([6], [6]), ([9, 6], [6, 9]), ([8, 10, 6], [6, 8, 10]), ([6, 11], [6, 11]), ([12, 6, 0, 1, 2, 3, 4, 5, 6, 7, 8, 9, 10, 11, 12], [12])])
def laws_FnWords.B18 : List Nat := [0, 1, 3, 0, 8, 31, 63, 127, 255, 127, 639, 2047, 4095, 8191]
theorem laws_FnWords.tab18 : rtab .any (opsOf Try.f8 18) = laws_FnWords.T18 := by kernel_rfl
theorem laws_FnWords.bits18 : waitsOk laws_FnWords.T18.2 laws_FnWords.B18 = true := by kernel_rfl
set_option maxHeartbeats 8000000 in
set_option maxRecDepth 100000 in
theorem laws_FnWords.calls (k : Nat) (A0 : Option Addr) (c0 : Nat) (l0 : List Int) (r : Bool) (w : World) (hr0 : Kd.C (Kd.int .u8) w A0 l0.length l0) (hc0 : l0.length ≤ c0) (h : laws_FnWords.f k l0 = some r) :
    Calls Try.prog 8 #[.slice A0 l0.length c0] w fun e w' => e = .returned (.bool r) ∧ Below w.heap.size w w' := by
  have hu24 := Try.underlying24
  have hu50 := Try.underlying50
  have HR0 := Aside0.mk hr0
  have HC0 := Aside0.mk hc0
  clear hr0 hc0
  have HB := Aside0.mk (Below.refl w.heap.size w)
  have H : ((laws_lwBig.f l0).bind fun t1082 => (if t1082 = true then (some true) else ((spec_DrawPackWords.f k l0).bind fun t1083 => ((impl_PackWords.f k t1083).bind fun bt1086 => (if bt1086.1 = 0 then ((impl_UnpackWords.f k bt1086.2).bind fun bt1095 => (if bt1095.1 = 0 then (laws_FnWords.j0 k l0 t1083 ((bt1095.2.2.length : Int) != (t1083.length : Int)) bt1095.1 bt1095.2.1 bt1095.2.2) else (laws_FnWords.j0 k l0 t1083 true bt1095.1 bt1095.2.1 bt1095.2.2))) else ((spec_PackWords.f k t1083).bind fun bt1091 => (some (bt1091.1 == bt1086.1)))))))) = some r := h
  clear h
  replace H := Option.bind_eq_some_iff.mp H
  obtain ⟨t1082, A20, H⟩ := H
  replace H : (if t1082 = true then (some true) else ((spec_DrawPackWords.f k l0).bind fun t1083 => ((impl_PackWords.f k t1083).bind fun bt1086 => (if bt1086.1 = 0 then ((impl_UnpackWords.f k bt1086.2).bind fun bt1095 => (if bt1095.1 = 0 then (laws_FnWords.j0 k l0 t1083 ((bt1095.2.2.length : Int) != (t1083.length : Int)) bt1095.1 bt1095.2.1 bt1095.2.2) else (laws_FnWords.j0 k l0 t1083 true bt1095.1 bt1095.2.1 bt1095.2.2))) else ((spec_PackWords.f k t1083).bind fun bt1091 => (some (bt1091.1 == bt1086.1))))))) = some r := H
  have A2 := Aside0.mk A20
  clear A20
  by_cases c3 : t1082 = true
  · subst c3
    have H1 : (some true) = some r := by rw [if_pos rfl] at H; exact H
    clear H
    have H := H1
    clear H1
    obtain rfl := Option.some.inj H
    have hfd24_0 := fun (a0 a1 : Value) (w : World) => (show (Instr.field 24 (.agg #[a0, a1]) 0).run Try.prog w = .ok a0 w from by kernel_rfl)
    have hfd24_1 := fun (a0 a1 : Value) (w : World) => (show (Instr.field 24 (.agg #[a0, a1]) 1).run Try.prog w = .ok a1 w from by kernel_rfl)
    have hfd50_0 := fun (a0 a1 a2 : Value) (w : World) => (show (Instr.field 50 (.agg #[a0, a1, a2]) 0).run Try.prog w = .ok a0 w from by kernel_rfl)
    have hfd50_1 := fun (a0 a1 a2 : Value) (w : World) => (show (Instr.field 50 (.agg #[a0, a1, a2]) 1).run Try.prog w = .ok a1 w from by kernel_rfl)
    have hfd50_2 := fun (a0 a1 a2 : Value) (w : World) => (show (Instr.field 50 (.agg #[a0, a1, a2]) 2).run Try.prog w = .ok a2 w from by kernel_rfl)
    go_enter Try.func8, Try.ntmps8
    go_wp2_with (first | ((with_reducible refine gate_callee (f := 26) rfl ?_); refine goesL_ (some 10) rfl rfl Try.func26 (by kernel_rfl) rfl #[.slice A0 l0.length c0] rfl (by (try simp only [List.map_toArray, List.map_cons, List.map_nil]); first | done | rfl | (simp only [List.length_drop, List.length_take]; rfl)) ?_; (with_reducible refine (laws_lwBig.calls _ _ l0 true _ ?side1 ?side2 A2.out).mono ?_); (case side1 => repeat (first | exact HR0.out | (with_reducible refine Kd.C_alloc ?_ _) | (with_reducible refine Kd.C_drewN ?_ _) | (with_reducible refine Kd.C_drew ?_))); (case side2 => exact HC0.out); rintro e w' ⟨rfl, ⟨nd, rfl⟩⟩; refine ⟨_, rfl, ?_⟩))
    go_ret
    exact ⟨by first | rfl | (simp [errW_none, errW_some] <;> rfl) | (simp [*, errW_none, errW_some] <;> rfl), by repeat (first | (with_reducible first | exact HB.out | apply below_alloc | apply pw_below_drewN | apply below_drew1) | exact HB.out)⟩
  · replace c3 := Bool.eq_false_iff.mpr c3
    subst c3
    have H1 : ((spec_DrawPackWords.f k l0).bind fun t1083 => ((impl_PackWords.f k t1083).bind fun bt1086 => (if bt1086.1 = 0 then ((impl_UnpackWords.f k bt1086.2).bind fun bt1095 => (if bt1095.1 = 0 then (laws_FnWords.j0 k l0 t1083 ((bt1095.2.2.length : Int) != (t1083.length : Int)) bt1095.1 bt1095.2.1 bt1095.2.2) else (laws_FnWords.j0 k l0 t1083 true bt1095.1 bt1095.2.1 bt1095.2.2))) else ((spec_PackWords.f k t1083).bind fun bt1091 => (some (bt1091.1 == bt1086.1)))))) = some r := by rw [if_neg (show ¬ (false = true) by decide)] at H; exact H
    clear H
    have H := H1
    clear H1
    replace H := Option.bind_eq_some_iff.mp H
    obtain ⟨t1083, A40, H⟩ := H
    replace H : ((impl_PackWords.f k t1083).bind fun bt1086 => (if bt1086.1 = 0 then ((impl_UnpackWords.f k bt1086.2).bind fun bt1095 => (if bt1095.1 = 0 then (laws_FnWords.j0 k l0 t1083 ((bt1095.2.2.length : Int) != (t1083.length : Int)) bt1095.1 bt1095.2.1 bt1095.2.2) else (laws_FnWords.j0 k l0 t1083 true bt1095.1 bt1095.2.1 bt1095.2.2))) else ((spec_PackWords.f k t1083).bind fun bt1091 => (some (bt1091.1 == bt1086.1))))) = some r := H
    have A4 := Aside0.mk A40
    clear A40
    replace H := Option.bind_eq_some_iff.mp H
    obtain ⟨⟨t1086, t1087⟩, A50, H⟩ := H
    replace H : (if t1086 = 0 then ((impl_UnpackWords.f k t1087).bind fun bt1095 => (if bt1095.1 = 0 then (laws_FnWords.j0 k l0 t1083 ((bt1095.2.2.length : Int) != (t1083.length : Int)) bt1095.1 bt1095.2.1 bt1095.2.2) else (laws_FnWords.j0 k l0 t1083 true bt1095.1 bt1095.2.1 bt1095.2.2))) else ((spec_PackWords.f k t1083).bind fun bt1091 => (some (bt1091.1 == t1086)))) = some r := H
    have A5 := Aside0.mk A50
    clear A50
    by_cases c6 : t1086 = 0
    · rw [if_pos c6] at H
      have c6b0 : (t1086 == 0) = true := beq_iff_eq.mpr c6
      have c6b1 : (t1086 != 0) = false := bne_eq_false_iff_eq.mpr c6
      clear c6
      replace H := Option.bind_eq_some_iff.mp H
      obtain ⟨⟨t1095, t1096, t1097⟩, A70, H⟩ := H
      replace H : (if t1095 = 0 then (laws_FnWords.j0 k l0 t1083 ((t1097.length : Int) != (t1083.length : Int)) t1095 t1096 t1097) else (laws_FnWords.j0 k l0 t1083 true t1095 t1096 t1097)) = some r := H
      have A7 := Aside0.mk A70
      clear A70
      have HC8 := Aside0.mk H
      clear H
      have hfd24_0 := fun (a0 a1 : Value) (w : World) => (show (Instr.field 24 (.agg #[a0, a1]) 0).run Try.prog w = .ok a0 w from by kernel_rfl)
      have hfd24_1 := fun (a0 a1 : Value) (w : World) => (show (Instr.field 24 (.agg #[a0, a1]) 1).run Try.prog w = .ok a1 w from by kernel_rfl)
      have hfd50_0 := fun (a0 a1 a2 : Value) (w : World) => (show (Instr.field 50 (.agg #[a0, a1, a2]) 0).run Try.prog w = .ok a0 w from by kernel_rfl)
      have hfd50_1 := fun (a0 a1 a2 : Value) (w : World) => (show (Instr.field 50 (.agg #[a0, a1, a2]) 1).run Try.prog w = .ok a1 w from by kernel_rfl)
      have hfd50_2 := fun (a0 a1 a2 : Value) (w : World) => (show (Instr.field 50 (.agg #[a0, a1, a2]) 2).run Try.prog w = .ok a2 w from by kernel_rfl)
      go_enter Try.func8, Try.ntmps8
      go_upto_region 8 with (first | ((with_reducible refine gate_callee (f := 26) rfl ?_); refine goesL_ (some 10) rfl rfl Try.func26 (by kernel_rfl) rfl #[.slice A0 l0.length c0] rfl (by (try simp only [List.map_toArray, List.map_cons, List.map_nil]); first | done | rfl | (simp only [List.length_drop, List.length_take]; rfl)) ?_; (with_reducible refine (laws_lwBig.calls _ _ l0 false _ ?side1 ?side2 A2.out).mono ?_); (case side1 => repeat (first | exact HR0.out | (with_reducible refine Kd.C_alloc ?_ _) | (with_reducible refine Kd.C_drewN ?_ _) | (with_reducible refine Kd.C_drew ?_))); (case side2 => exact HC0.out); rintro e w' ⟨rfl, ⟨nd, rfl⟩⟩; refine ⟨_, rfl, ?_⟩) | ((with_reducible refine gate_callee (f := 50) rfl ?_); refine goesL_ (some 12) rfl rfl Try.func50 (by kernel_rfl) rfl #[.slice A0 l0.length c0] rfl (by (try simp only [List.map_toArray, List.map_cons, List.map_nil]); first | done | rfl | (simp only [List.length_drop, List.length_take]; rfl)) ?_; (with_reducible refine (spec_DrawPackWords.calls k _ _ l0 t1083 _ ?side1 ?side2 A4.out).mono ?_); (case side1 => repeat (first | exact HR0.out | (with_reducible refine Kd.C_alloc ?_ _) | (with_reducible refine Kd.C_drewN ?_ _) | (with_reducible refine Kd.C_drew ?_))); (case side2 => exact HC0.out); rintro e w9 ⟨v1084, rfl, ho0, hb⟩; refine ⟨_, rfl, ?_⟩; have n0_ := Aside0.mk (Kd.S_lower ho0 (below_size (by repeat (first | (with_reducible first | exact HB.out | apply below_alloc | apply pw_below_drewN | apply below_drew1) | exact HB.out)))); have n1_ := Aside0.mk (below_step (by repeat (first | (with_reducible first | exact HB.out | apply below_alloc | apply pw_below_drewN | apply below_drew1) | exact HB.out)) hb); clear HB; have HO1085 := n0_; have HB := n1_; clear n0_ n1_; (try clear hb); (try clear hb2); (try clear hk); (try clear hi); (try clear ho0); obtain ⟨Ao10, co10, eo10⟩ := Kd.S_slice HO1085.out; subst eo10) | ((with_reducible refine gate_callee (f := 47) rfl ?_); refine goesL_ (some 14) rfl rfl Try.func47 (by kernel_rfl) rfl #[.slice Ao10 t1083.length co10] rfl (by (try simp only [List.map_toArray, List.map_cons, List.map_nil]); first | done | rfl | (simp only [List.length_drop, List.length_take]; rfl)) ?_; (with_reducible refine (impl_PackWords.calls k _ _ t1083 t1086 t1087 _ ?side1 ?side2 A5.out).mono ?_); (case side1 => repeat (first | exact (Kd.S_reads' HO1085.out).2.2 | (with_reducible refine Kd.C_alloc ?_ _) | (with_reducible refine Kd.C_drewN ?_ _) | (with_reducible refine Kd.C_drew ?_))); (case side2 => exact (Kd.S_reads' HO1085.out).2.1); rintro e w11 ⟨v1088, rfl, ho0, hb⟩; refine ⟨_, rfl, ?_⟩; have n0_ := Aside0.mk (Kd.S_elder' (by (with_reducible repeat (first | apply Kd.S_alloc | apply Kd.S_drewN | apply Kd.S_drew)); exact HO1085.out) (Kd.R_base ho0) hb); have n1_ := Aside0.mk (Kd.R_lower ho0 (below_size (by repeat (first | (with_reducible first | exact HB.out | apply below_alloc | apply pw_below_drewN | apply below_drew1) | exact HB.out)))); have n2_ := Aside0.mk (below_step (by repeat (first | (with_reducible first | exact HB.out | apply below_alloc | apply pw_below_drewN | apply below_drew1) | exact HB.out)) hb); clear HO1085; clear HB; have HO1085 := n0_; have HO1089 := n1_; have HB := n2_; clear n0_ n1_ n2_; (try clear hb); (try clear hb2); (try clear hk); (try clear hi); (try clear ho0)) | ((with_reducible refine gate_dst (N := 4) rfl ?_); (try (refine gate_guard (by rfl) ?_; dsimp only)); refine box_event ?hg (N := 4) ?hd (cs := #[.int .i64 0, .slice none 0 0]) (t := 24) ?hr ?_; (case hd => rfl); (case hg => rfl); (case hr => first | (go_simp; done) | (go_simp; rfl)); intro gb1090 hg w12 hbox hb; have n0_ := Aside0.mk (Kd.S_below (by (with_reducible repeat (first | apply Kd.S_alloc | apply Kd.S_drewN | apply Kd.S_drew)); exact HO1085.out) hb); have n1_ := Aside0.mk (Kd.R_below (by (with_reducible repeat (first | apply Kd.R_alloc | apply Kd.R_drewN | apply Kd.R_drew)); exact HO1089.out) hb); have n2_ := Aside0.mk (below_step (by repeat (first | (with_reducible first | exact HB.out | apply below_alloc | apply pw_below_drewN | apply below_drew1) | exact HB.out)) hb); have n3_ := Aside0.mk (hbox); have n4_ := Aside0.mk ((by rw [hg]; exact (below_size (by repeat (first | (with_reducible first | exact HB.out | apply below_alloc | apply pw_below_drewN | apply below_drew1) | exact HB.out))) : w.heap.size ≤ gb1090)); have n5_ := Aside0.mk ((by rw [hg]; exact (below_size (by repeat (first | (with_reducible first | exact HB.out | apply below_alloc | apply pw_below_drewN | apply below_drew1) | exact HB.out))) : w.heap.size ≤ gb1090)); clear HO1085; clear HO1089; clear HB; have HO1085 := n0_; have HO1089 := n1_; have HB := n2_; have BK1090 := n3_; have GW1090 := n4_; have GE1090 := n5_; clear n0_ n1_ n2_ n3_ n4_ n5_; clear hb hbox hg; have hcz13_0 : w12.cell? ⟨gb1090, 0, none⟩ = some (.int .i64 0) := (blk_cell BK1090.out 0).trans (by first | rfl | (simp only [*] <;> rfl)); have hcz13_1 : w12.cell? ⟨gb1090, 1, none⟩ = some (.slice none 0 0) := (blk_cell BK1090.out 1).trans (by first | rfl | (simp only [*] <;> rfl)); have hfz13_0 := blk_frozen BK1090.out 0; have hfz13_1 := blk_frozen BK1090.out 1; obtain ⟨Ao14, co14, eo14⟩ := Kd.R_slice HO1089.out; subst eo14) | ((with_reducible refine gate_callee (f := 38) rfl ?_); refine goesL_ (some 26) rfl rfl Try.func38 (by kernel_rfl) rfl #[.slice Ao14 t1087.length co14] rfl (by (try simp only [List.map_toArray, List.map_cons, List.map_nil]); first | done | rfl | (simp only [List.length_drop, List.length_take]; rfl)) ?_; (with_reducible refine (impl_UnpackWords.calls k _ _ t1087 t1095 t1096 t1097 _ ?side1 ?side2 A7.out).mono ?_); (case side1 => refine (Kd.R_reads' (e := 5) (base := w.heap.size) (ok := fun k_ => True) (n := t1087.length) (c := co14) ?_).2.2; exact (by (with_reducible repeat (first | apply Kd.R_alloc | apply Kd.R_drewN | apply Kd.R_drew)); exact (Kd.R_mono (Kd.R_far (p := ⟨gb1090, 1, none⟩) (Kd.R_far (p := ⟨gb1090, 0, none⟩) (Kd.R_types HO1089.out BK1090.out (by decide)) (fun _ hk => hk.2) (.int .i64 t1086)) (fun _ hk => hk.2) (.slice Ao14 t1087.length co14)) (fun _ h_ => h_.1)))); (case side2 => exact (Kd.R_reads' HO1089.out).2.1); rintro e w15 ⟨v1098, rfl, ho0, hb⟩; refine ⟨_, rfl, ?_⟩; have n0_ := Aside0.mk (Kd.S_elder' (by (with_reducible repeat (first | apply Kd.S_alloc | apply Kd.S_drewN | apply Kd.S_drew)); exact (Kd.S_mono (Kd.S_far (p := ⟨gb1090, 1, none⟩) (Kd.S_far (p := ⟨gb1090, 0, none⟩) (Kd.S_types HO1085.out BK1090.out (by decide)) (fun _ hk => hk.2) (.int .i64 t1086)) (fun _ hk => hk.2) (.slice Ao14 t1087.length co14)) (fun _ h_ => h_.1))) (Kd.S_base ho0) hb); have n1_ := Aside0.mk (Kd.R_below (by (with_reducible repeat (first | apply Kd.R_alloc | apply Kd.R_drewN | apply Kd.R_drew)); exact (Kd.R_mono (Kd.R_far (p := ⟨gb1090, 1, none⟩) (Kd.R_far (p := ⟨gb1090, 0, none⟩) (Kd.R_types HO1089.out BK1090.out (by decide)) (fun _ hk => hk.2) (.int .i64 t1086)) (fun _ hk => hk.2) (.slice Ao14 t1087.length co14)) (fun _ h_ => h_.1))) hb); have n2_ := Aside0.mk (Kd.S_lower (Kd.S_new' (Kd.S_new' ho0 (Kd.S_lt (by (with_reducible repeat (first | apply Kd.S_alloc | apply Kd.S_drewN | apply Kd.S_drew)); exact (Kd.S_mono (Kd.S_far (p := ⟨gb1090, 1, none⟩) (Kd.S_far (p := ⟨gb1090, 0, none⟩) (Kd.S_types HO1085.out BK1090.out (by decide)) (fun _ hk => hk.2) (.int .i64 t1086)) (fun _ hk => hk.2) (.slice Ao14 t1087.length co14)) (fun _ h_ => h_.1))))) (Kd.R_lt (by (with_reducible repeat (first | apply Kd.R_alloc | apply Kd.R_drewN | apply Kd.R_drew)); exact (Kd.R_mono (Kd.R_far (p := ⟨gb1090, 1, none⟩) (Kd.R_far (p := ⟨gb1090, 0, none⟩) (Kd.R_types HO1089.out BK1090.out (by decide)) (fun _ hk => hk.2) (.int .i64 t1086)) (fun _ hk => hk.2) (.slice Ao14 t1087.length co14)) (fun _ h_ => h_.1))))) (below_size (by repeat (first | (with_reducible first | exact HB.out | apply below_alloc | apply pw_below_drewN | apply below_drew1 | refine below_set ?_ GE1090.out) | exact HB.out)))); have n3_ := Aside0.mk (blk_below (g := gb1090) (o := .cells #[.int .i64 t1086, .slice Ao14 t1087.length co14] 24 (0, 0)) (by (with_reducible repeat (first | refine blk_drewN ?_ _ | refine blk_drew ?_ | refine blk_alloc ?_ _)); refine blk_put (cs := #[.int .i64 t1086, .slice none 0 0]) ?_ 1 _ rfl; (with_reducible repeat (first | refine blk_drewN ?_ _ | refine blk_drew ?_ | refine blk_alloc ?_ _)); refine blk_put (cs := #[.int .i64 0, .slice none 0 0]) ?_ 0 _ rfl; (with_reducible repeat (first | refine blk_drewN ?_ _ | refine blk_drew ?_ | refine blk_alloc ?_ _)); exact BK1090.out) hb); have n4_ := Aside0.mk (below_step (by repeat (first | (with_reducible first | exact HB.out | apply below_alloc | apply pw_below_drewN | apply below_drew1 | refine below_set ?_ GE1090.out) | exact HB.out)) hb); clear HO1085; clear HO1089; clear BK1090; clear HB; have HO1085 := n0_; have HO1089 := n1_; have HO1099 := n2_; have BK1090 := n3_; have HB := n4_; clear n0_ n1_ n2_ n3_ n4_; (try clear hb); (try clear hb2); (try clear hk); (try clear hi); (try clear ho0)) | ((with_reducible refine gate_dst (N := 5) rfl ?_); (try (refine gate_guard (by rfl) ?_; dsimp only)); refine box_event ?hg (N := 5) ?hd (cs := #[.int .i64 0, .int .i64 0, .slice none 0 0]) (t := 50) ?hr ?_; (case hd => rfl); (case hg => rfl); (case hr => first | (go_simp; done) | (go_simp; rfl)); intro gb1100 hg w16 hbox hb; have n0_ := Aside0.mk (Kd.S_below (by (with_reducible repeat (first | apply Kd.S_alloc | apply Kd.S_drewN | apply Kd.S_drew)); exact HO1085.out) hb); have n1_ := Aside0.mk (Kd.R_below (by (with_reducible repeat (first | apply Kd.R_alloc | apply Kd.R_drewN | apply Kd.R_drew)); exact HO1089.out) hb); have n2_ := Aside0.mk (Kd.S_below (by (with_reducible repeat (first | apply Kd.S_alloc | apply Kd.S_drewN | apply Kd.S_drew)); exact HO1099.out) hb); have n3_ := Aside0.mk (blk_below (g := gb1090) (o := .cells #[.int .i64 t1086, .slice Ao14 t1087.length co14] 24 (0, 0)) (by (with_reducible repeat (first | refine blk_drewN ?_ _ | refine blk_drew ?_ | refine blk_alloc ?_ _)); exact BK1090.out) hb); have n4_ := Aside0.mk (below_step (by repeat (first | (with_reducible first | exact HB.out | apply below_alloc | apply pw_below_drewN | apply below_drew1 | refine below_set ?_ GE1090.out) | exact HB.out)) hb); have n5_ := Aside0.mk (hbox); have n6_ := Aside0.mk ((by rw [hg]; exact (below_size (by repeat (first | (with_reducible first | exact HB.out | apply below_alloc | apply pw_below_drewN | apply below_drew1 | refine below_set ?_ GE1090.out) | exact HB.out))) : w.heap.size ≤ gb1100)); have n7_ := Aside0.mk ((by rw [hg]; exact (below_size (by repeat (first | (with_reducible first | exact HB.out | apply below_alloc | apply pw_below_drewN | apply below_drew1 | refine below_set ?_ GE1090.out) | exact HB.out))) : w.heap.size ≤ gb1100)); have n8_ := Aside0.mk ((by rw [hg]; exact Nat.ne_of_lt (blk_lt (g := gb1090) (o := .cells #[.int .i64 t1086, .slice Ao14 t1087.length co14] 24 (0, 0)) (by (with_reducible repeat (first | refine blk_drewN ?_ _ | refine blk_drew ?_ | refine blk_alloc ?_ _)); exact BK1090.out)) : gb1090 ≠ gb1100)); have n9_ := Aside0.mk ((by rw [hg]; exact Nat.ne_of_gt (blk_lt (g := gb1090) (o := .cells #[.int .i64 t1086, .slice Ao14 t1087.length co14] 24 (0, 0)) (by (with_reducible repeat (first | refine blk_drewN ?_ _ | refine blk_drew ?_ | refine blk_alloc ?_ _)); exact BK1090.out)) : gb1100 ≠ gb1090)); clear HO1085; clear HO1089; clear HO1099; clear BK1090; clear HB; have HO1085 := n0_; have HO1089 := n1_; have HO1099 := n2_; have BK1090 := n3_; have HB := n4_; have BK1100 := n5_; have GW1100 := n6_; have GE1100 := n7_; have NB1090_1100 := n8_; have NB1100_1090 := n9_; clear n0_ n1_ n2_ n3_ n4_ n5_ n6_ n7_ n8_ n9_; clear hb hbox hg; have hnb17 := NB1100_1090.out; have hnc17 := NB1090_1100.out; have hcz18_0 : w16.cell? ⟨gb1100, 0, none⟩ = some (.int .i64 0) := (blk_cell BK1100.out 0).trans (by first | rfl | (simp only [*] <;> rfl)); have hcz18_1 : w16.cell? ⟨gb1100, 1, none⟩ = some (.int .i64 0) := (blk_cell BK1100.out 1).trans (by first | rfl | (simp only [*] <;> rfl)); have hcz18_2 : w16.cell? ⟨gb1100, 2, none⟩ = some (.slice none 0 0) := (blk_cell BK1100.out 2).trans (by first | rfl | (simp only [*] <;> rfl)); have hfz18_0 := blk_frozen BK1100.out 0; have hfz18_1 := blk_frozen BK1100.out 1; have hfz18_2 := blk_frozen BK1100.out 2; obtain ⟨Ao19, co19, eo19⟩ := Kd.S_slice HO1099.out; subst eo19))
      (try simp only [Act.put, List.setIfInBounds_toArray, List.set_cons_zero, List.set_cons_succ])
      go_cut [37] (fun v37 wc => ∃ (kq : Nat) (x37_7 : Bool), v37 = .bool x37_7 ∧ Aside0 (laws_FnWords.j0 kq l0 t1083 x37_7 t1095 t1096 t1097 = some r) ∧ Aside0 (kq ≤ k) ∧ Aside0 (Kd.S (Kd.slice 5 (Kd.int .u8)) 22 wc w.heap.size (fun k_ => some k_ ≠ ((.slice Ao14 t1087.length co14) : Value).ownBlock ∧ some k_ ≠ ((.slice Ao19 t1097.length co19) : Value).ownBlock) (.slice Ao10 t1083.length co10) t1083) ∧ Aside0 (Kd.R (Kd.int .u8) 5 wc w.heap.size (fun _ => True) (.slice Ao14 t1087.length co14) t1087) ∧ Aside0 (Kd.S (Kd.slice 5 (Kd.int .u8)) 22 wc w.heap.size (fun k_ => some k_ ≠ ((.slice Ao10 t1083.length co10) : Value).ownBlock ∧ some k_ ≠ ((.slice Ao14 t1087.length co14) : Value).ownBlock) (.slice Ao19 t1097.length co19) t1097) ∧ Aside0 (wc.heap[gb1090]? = some (.cells #[.int .i64 t1086, (.slice Ao14 t1087.length co14)] 24 (0, 0))) ∧ Aside0 (wc.heap[gb1100]? = some (.cells #[.int .i64 t1095, .int .i64 t1096, (.slice Ao19 t1097.length co19)] 50 (0, 0))) ∧ Aside0 (Below w.heap.size w wc))
      case first =>
        have H := HC8.out
        clear HC8
        by_cases c20 : t1095 = 0
        · rw [if_pos c20] at H
          have c20b0 : (t1095 == 0) = true := beq_iff_eq.mpr c20
          have c20b1 : (t1095 != 0) = false := bne_eq_false_iff_eq.mpr c20
          clear c20
          (first | rw [c20b0] | (simp only [i64_w, i32_w]; rw [c20b0]) | skip)
          have H' := Aside0.mk H
          clear H
          have hnb21 := NB1100_1090.out
          have hnc21 := NB1090_1100.out
          have hcz22_0 : w16.cell? ⟨gb1100, 0, none⟩ = some (.int .i64 0) := (blk_cell BK1100.out 0).trans (by first | rfl | (simp only [*] <;> rfl))
          have hcz22_1 : w16.cell? ⟨gb1100, 1, none⟩ = some (.int .i64 0) := (blk_cell BK1100.out 1).trans (by first | rfl | (simp only [*] <;> rfl))
          have hcz22_2 : w16.cell? ⟨gb1100, 2, none⟩ = some (.slice none 0 0) := (blk_cell BK1100.out 2).trans (by first | rfl | (simp only [*] <;> rfl))
          have hfz22_0 := blk_frozen BK1100.out 0
          have hfz22_1 := blk_frozen BK1100.out 1
          have hfz22_2 := blk_frozen BK1100.out 2
          go_wp2
          go_meet
          case rel => exact ⟨_, (((t1097.length : Int) != (t1083.length : Int))), (by first | rfl | (simp; done) | (simp [*]; done)), H', ⟨by first | omega | exact Nat.le_refl _⟩, ⟨by (with_reducible repeat (first | apply Kd.S_alloc | apply Kd.S_drewN | apply Kd.S_drew)); exact Kd.S_mono (Kd.S_far (p := ⟨gb1100, 2, none⟩) (Kd.S_far (p := ⟨gb1100, 1, none⟩) (Kd.S_far (p := ⟨gb1100, 0, none⟩) (Kd.S_types HO1085.out BK1100.out (by decide)) (fun _ hk => hk.2) (.int .i64 t1095)) (fun _ hk => hk.2) (.int .i64 t1096)) (fun _ hk => hk.2) (.slice Ao19 t1097.length co19)) (fun _ hk => ⟨hk.1.1.2, hk.1.2⟩)⟩, ⟨by (with_reducible repeat (first | apply Kd.R_alloc | apply Kd.R_drewN | apply Kd.R_drew)); exact Kd.R_mono (Kd.R_far (p := ⟨gb1100, 2, none⟩) (Kd.R_far (p := ⟨gb1100, 1, none⟩) (Kd.R_far (p := ⟨gb1100, 0, none⟩) (Kd.R_types HO1089.out BK1100.out (by decide)) (fun _ hk => hk.2) (.int .i64 t1095)) (fun _ hk => hk.2) (.int .i64 t1096)) (fun _ hk => hk.2) (.slice Ao19 t1097.length co19)) (fun _ hk => trivial)⟩, ⟨by (with_reducible repeat (first | apply Kd.S_alloc | apply Kd.S_drewN | apply Kd.S_drew)); exact Kd.S_mono (Kd.S_far (p := ⟨gb1100, 2, none⟩) (Kd.S_far (p := ⟨gb1100, 1, none⟩) (Kd.S_far (p := ⟨gb1100, 0, none⟩) (Kd.S_types HO1099.out BK1100.out (by decide)) (fun _ hk => hk.2) (.int .i64 t1095)) (fun _ hk => hk.2) (.int .i64 t1096)) (fun _ hk => hk.2) (.slice Ao19 t1097.length co19)) (fun _ hk => ⟨hk.1.1.2, hk.1.2⟩)⟩, ⟨by (with_reducible repeat (first | refine blk_drewN ?_ _ | refine blk_drew ?_ | refine blk_alloc ?_ _)); refine blk_far ?_ NB1090_1100.out _; (with_reducible repeat (first | refine blk_drewN ?_ _ | refine blk_drew ?_ | refine blk_alloc ?_ _)); refine blk_far ?_ NB1090_1100.out _; (with_reducible repeat (first | refine blk_drewN ?_ _ | refine blk_drew ?_ | refine blk_alloc ?_ _)); refine blk_far ?_ NB1090_1100.out _; (with_reducible repeat (first | refine blk_drewN ?_ _ | refine blk_drew ?_ | refine blk_alloc ?_ _)); exact BK1090.out⟩, ⟨by (with_reducible repeat (first | refine blk_drewN ?_ _ | refine blk_drew ?_ | refine blk_alloc ?_ _)); refine blk_put (cs := #[.int .i64 t1095, .int .i64 t1096, .slice none 0 0]) ?_ 2 _ rfl; (with_reducible repeat (first | refine blk_drewN ?_ _ | refine blk_drew ?_ | refine blk_alloc ?_ _)); refine blk_put (cs := #[.int .i64 t1095, .int .i64 0, .slice none 0 0]) ?_ 1 _ rfl; (with_reducible repeat (first | refine blk_drewN ?_ _ | refine blk_drew ?_ | refine blk_alloc ?_ _)); refine blk_put (cs := #[.int .i64 0, .int .i64 0, .slice none 0 0]) ?_ 0 _ rfl; (with_reducible repeat (first | refine blk_drewN ?_ _ | refine blk_drew ?_ | refine blk_alloc ?_ _)); exact BK1100.out⟩, ⟨by repeat (first | (with_reducible first | exact HB.out | apply below_alloc | apply pw_below_drewN | apply below_drew1 | refine below_set ?_ GE1090.out | refine below_set ?_ GE1100.out) | exact HB.out)⟩⟩
        · rw [if_neg c20] at H
          have c20b0 : (t1095 == 0) = false := beq_eq_false_iff_ne.mpr c20
          have c20b1 : (t1095 != 0) = true := bne_iff_ne.mpr c20
          (first | rw [c20b0] | (simp only [i64_w, i32_w]; rw [c20b0]) | skip)
          have H' := Aside0.mk H
          clear H
          have hnb23 := NB1100_1090.out
          have hnc23 := NB1090_1100.out
          have hcz24_0 : w16.cell? ⟨gb1100, 0, none⟩ = some (.int .i64 0) := (blk_cell BK1100.out 0).trans (by first | rfl | (simp only [*] <;> rfl))
          have hcz24_1 : w16.cell? ⟨gb1100, 1, none⟩ = some (.int .i64 0) := (blk_cell BK1100.out 1).trans (by first | rfl | (simp only [*] <;> rfl))
          have hcz24_2 : w16.cell? ⟨gb1100, 2, none⟩ = some (.slice none 0 0) := (blk_cell BK1100.out 2).trans (by first | rfl | (simp only [*] <;> rfl))
          have hfz24_0 := blk_frozen BK1100.out 0
          have hfz24_1 := blk_frozen BK1100.out 1
          have hfz24_2 := blk_frozen BK1100.out 2
          go_wp2
          go_meet
          case rel => exact ⟨_, (true), (by first | rfl | (simp; done) | (simp [*]; done)), H', ⟨by first | omega | exact Nat.le_refl _⟩, ⟨by (with_reducible repeat (first | apply Kd.S_alloc | apply Kd.S_drewN | apply Kd.S_drew)); exact Kd.S_mono (Kd.S_far (p := ⟨gb1100, 2, none⟩) (Kd.S_far (p := ⟨gb1100, 1, none⟩) (Kd.S_far (p := ⟨gb1100, 0, none⟩) (Kd.S_types HO1085.out BK1100.out (by decide)) (fun _ hk => hk.2) (.int .i64 t1095)) (fun _ hk => hk.2) (.int .i64 t1096)) (fun _ hk => hk.2) (.slice Ao19 t1097.length co19)) (fun _ hk => ⟨hk.1.1.2, hk.1.2⟩)⟩, ⟨by (with_reducible repeat (first | apply Kd.R_alloc | apply Kd.R_drewN | apply Kd.R_drew)); exact Kd.R_mono (Kd.R_far (p := ⟨gb1100, 2, none⟩) (Kd.R_far (p := ⟨gb1100, 1, none⟩) (Kd.R_far (p := ⟨gb1100, 0, none⟩) (Kd.R_types HO1089.out BK1100.out (by decide)) (fun _ hk => hk.2) (.int .i64 t1095)) (fun _ hk => hk.2) (.int .i64 t1096)) (fun _ hk => hk.2) (.slice Ao19 t1097.length co19)) (fun _ hk => trivial)⟩, ⟨by (with_reducible repeat (first | apply Kd.S_alloc | apply Kd.S_drewN | apply Kd.S_drew)); exact Kd.S_mono (Kd.S_far (p := ⟨gb1100, 2, none⟩) (Kd.S_far (p := ⟨gb1100, 1, none⟩) (Kd.S_far (p := ⟨gb1100, 0, none⟩) (Kd.S_types HO1099.out BK1100.out (by decide)) (fun _ hk => hk.2) (.int .i64 t1095)) (fun _ hk => hk.2) (.int .i64 t1096)) (fun _ hk => hk.2) (.slice Ao19 t1097.length co19)) (fun _ hk => ⟨hk.1.1.2, hk.1.2⟩)⟩, ⟨by (with_reducible repeat (first | refine blk_drewN ?_ _ | refine blk_drew ?_ | refine blk_alloc ?_ _)); refine blk_far ?_ NB1090_1100.out _; (with_reducible repeat (first | refine blk_drewN ?_ _ | refine blk_drew ?_ | refine blk_alloc ?_ _)); refine blk_far ?_ NB1090_1100.out _; (with_reducible repeat (first | refine blk_drewN ?_ _ | refine blk_drew ?_ | refine blk_alloc ?_ _)); refine blk_far ?_ NB1090_1100.out _; (with_reducible repeat (first | refine blk_drewN ?_ _ | refine blk_drew ?_ | refine blk_alloc ?_ _)); exact BK1090.out⟩, ⟨by (with_reducible repeat (first | refine blk_drewN ?_ _ | refine blk_drew ?_ | refine blk_alloc ?_ _)); refine blk_put (cs := #[.int .i64 t1095, .int .i64 t1096, .slice none 0 0]) ?_ 2 _ rfl; (with_reducible repeat (first | refine blk_drewN ?_ _ | refine blk_drew ?_ | refine blk_alloc ?_ _)); refine blk_put (cs := #[.int .i64 t1095, .int .i64 0, .slice none 0 0]) ?_ 1 _ rfl; (with_reducible repeat (first | refine blk_drewN ?_ _ | refine blk_drew ?_ | refine blk_alloc ?_ _)); refine blk_put (cs := #[.int .i64 0, .int .i64 0, .slice none 0 0]) ?_ 0 _ rfl; (with_reducible repeat (first | refine blk_drewN ?_ _ | refine blk_drew ?_ | refine blk_alloc ?_ _)); exact BK1100.out⟩, ⟨by repeat (first | (with_reducible first | exact HB.out | apply below_alloc | apply pw_below_drewN | apply below_drew1 | refine below_set ?_ GE1090.out | refine below_set ?_ GE1100.out) | exact HB.out)⟩⟩
      case rest =>
        clear HC8
        try clear c1
        try clear c2
        try clear p2
        try clear c3
        try clear c4
        try clear c5
        try clear c6
        try clear c6b0
        try clear c6b1
        try clear c8
        try clear c17
        try clear c20
        try clear c20b0
        try clear c20b1
        try clear c21
        try clear c23
        try clear hcz13_0
        try clear hcz13_1
        try clear hcz18_0
        try clear hcz18_1
        try clear hcz18_2
        try clear hcz22_0
        try clear hcz22_1
        try clear hcz22_2
        try clear hcz24_0
        try clear hcz24_1
        try clear hcz24_2
        try clear hfz13_0
        try clear hfz13_1
        try clear hfz18_0
        try clear hfz18_1
        try clear hfz18_2
        try clear hfz22_0
        try clear hfz22_1
        try clear hfz22_2
        try clear hfz24_0
        try clear hfz24_1
        try clear hfz24_2
        obtain ⟨kq, x37_7, rfl, HA, HJ7, HO_3, HO_1091001, HO_1101002, BK1090, BK1100, HB⟩ := hcut
        cases kq with
        | zero => exact absurd HA.out (by simp [laws_FnWords.j0])
        | succ kj7 =>
          have H := HA.out
          clear HA
          simp only [laws_FnWords.j0] at H
          by_cases c25 : x37_7 = true
          · subst c25
            have H1 : (none) = some r := by rw [if_pos rfl] at H; exact H
            clear H
            have H := H1
            clear H1
            exact absurd H (by simp)
          · replace c25 := Bool.eq_false_iff.mpr c25
            subst c25
            have H1 : (laws_FnWords.l0 kj7 l0 t1083 0 t1095 t1096 t1097) = some r := by rw [if_neg (show ¬ (false = true) by decide)] at H; exact H
            clear H
            have H := H1
            clear H1
            have H' := Aside0.mk H
            clear H
            go_wp2
            go_loopg [6] kj7 (fun kq v6 w' => ∃ (x6_2 : Int), v6 = .int .i64 x6_2 ∧ Aside0 (laws_FnWords.l0 kq l0 t1083 x6_2 t1095 t1096 t1097 = some r) ∧ Aside0 (kq ≤ kj7) ∧ Aside0 (Kd.S (Kd.slice 5 (Kd.int .u8)) 22 w' w.heap.size (fun k_ => some k_ ≠ ((.slice Ao14 t1087.length co14) : Value).ownBlock ∧ some k_ ≠ ((.slice Ao19 t1097.length co19) : Value).ownBlock) (.slice Ao10 t1083.length co10) t1083) ∧ Aside0 (Kd.R (Kd.int .u8) 5 w' w.heap.size (fun _ => True) (.slice Ao14 t1087.length co14) t1087) ∧ Aside0 (Kd.S (Kd.slice 5 (Kd.int .u8)) 22 w' w.heap.size (fun k_ => some k_ ≠ ((.slice Ao10 t1083.length co10) : Value).ownBlock ∧ some k_ ≠ ((.slice Ao14 t1087.length co14) : Value).ownBlock) (.slice Ao19 t1097.length co19) t1097) ∧ Aside0 (w'.heap[gb1090]? = some (.cells #[.int .i64 t1086, (.slice Ao14 t1087.length co14)] 24 (0, 0))) ∧ Aside0 (w'.heap[gb1100]? = some (.cells #[.int .i64 t1095, .int .i64 t1096, (.slice Ao19 t1097.length co19)] 50 (0, 0))) ∧ Aside0 (Below w.heap.size w w'))
            case atStart => exact ⟨(0), (by first | rfl | (simp; done) | (simp [*]; done)), H', ⟨Nat.le_refl _⟩, ⟨by (with_reducible repeat (first | apply Kd.S_alloc | apply Kd.S_drewN | apply Kd.S_drew)); exact HO_3.out⟩, ⟨by (with_reducible repeat (first | apply Kd.R_alloc | apply Kd.R_drewN | apply Kd.R_drew)); exact HO_1091001.out⟩, ⟨by (with_reducible repeat (first | apply Kd.S_alloc | apply Kd.S_drewN | apply Kd.S_drew)); exact HO_1101002.out⟩, ⟨by (with_reducible repeat (first | refine blk_drewN ?_ _ | refine blk_drew ?_ | refine blk_alloc ?_ _)); exact BK1090.out⟩, ⟨by (with_reducible repeat (first | refine blk_drewN ?_ _ | refine blk_drew ?_ | refine blk_alloc ?_ _)); exact BK1100.out⟩, ⟨by repeat (first | (with_reducible first | exact HB.out | apply below_alloc | apply pw_below_drewN | apply below_drew1 | refine below_set ?_ GE1090.out | refine below_set ?_ GE1100.out) | exact HB.out)⟩⟩
            case round =>
              clear H'
              try clear c1
              try clear c2
              try clear p2
              try clear c3
              try clear c4
              try clear c5
              try clear c6
              try clear c6b0
              try clear c6b1
              try clear c8
              try clear c17
              try clear c20
              try clear c20b0
              try clear c20b1
              try clear c21
              try clear c23
              try clear c25
              try clear hcz13_0
              try clear hcz13_1
              try clear hcz18_0
              try clear hcz18_1
              try clear hcz18_2
              try clear hcz22_0
              try clear hcz22_1
              try clear hcz22_2
              try clear hcz24_0
              try clear hcz24_1
              try clear hcz24_2
              try clear hfz13_0
              try clear hfz13_1
              try clear hfz18_0
              try clear hfz18_1
              try clear hfz18_2
              try clear hfz22_0
              try clear hfz22_1
              try clear hfz22_2
              try clear hfz24_0
              try clear hfz24_1
              try clear hfz24_2
              try clear p2
              obtain ⟨x6_2, rfl, HA, HK2, HO_3, HO_1091001, HO_1101002, BK1090, BK1100, HB⟩ := hrel
              cases gk with
              | zero => exact absurd HA.out (by simp [laws_FnWords.l0])
              | succ k2 =>
                have H := HA.out
                clear HA
                simp only [laws_FnWords.l0] at H
                by_cases c26 : x6_2 < (t1083.length : Int)
                · rw [if_pos c26] at H
                  have c26b0 : decide (x6_2 < (t1083.length : Int)) = true := decide_eq_true c26
                  clear c26
                  by_cases c27 : 0 ≤ x6_2
                  · rw [if_pos c27] at H
                    have c27b0 : decide (0 ≤ x6_2) = true := decide_eq_true c27
                    clear c27
                    by_cases c28 : x6_2 < (t1097.length : Int)
                    · rw [if_pos c28] at H
                      have c28b0 : decide (x6_2 < (t1097.length : Int)) = true := decide_eq_true c28
                      clear c28
                      replace H := Option.bind_eq_some_iff.mp H
                      obtain ⟨t1103, A290, H⟩ := H
                      replace H : (if t1103 = true then (laws_FnWords.l0 k2 l0 t1083 (wrap64 (x6_2 + 1)) t1095 t1096 t1097) else (none)) = some r := H
                      have A29 := Aside0.mk A290
                      clear A290
                      by_cases c30 : t1103 = true
                      · subst c30
                        have H1 : (laws_FnWords.l0 k2 l0 t1083 (wrap64 (x6_2 + 1)) t1095 t1096 t1097) = some r := by rw [if_pos rfl] at H; exact H
                        clear H
                        have H := H1
                        clear H1
                        have H' := Aside0.mk H
                        clear H
                        try go_wp2
                        have n0_ := Aside0.mk (Kd.S_drew HO_3.out)
                        have n1_ := Aside0.mk (Kd.R_drew HO_1091001.out)
                        have n2_ := Aside0.mk (Kd.S_drew HO_1101002.out)
                        have n3_ := Aside0.mk (blk_drew BK1090.out)
                        have n4_ := Aside0.mk (blk_drew BK1100.out)
                        have n5_ := Aside0.mk (below_drew1 HB.out)
                        clear HO_3
                        clear HO_1091001
                        clear HO_1101002
                        clear BK1090
                        clear BK1100
                        clear HB
                        have HO_3 := n0_
                        have HO_1091001 := n1_
                        have HO_1101002 := n2_
                        have BK1090 := n3_
                        have BK1100 := n4_
                        have HB := n5_
                        clear n0_ n1_ n2_ n3_ n4_ n5_
                        have p1101 : 0 ≤ (x6_2 : Int) := of_decide_eq_true (by first | (with_reducible assumption) | assumption)
                        have q1101 : x6_2 < (t1097.length : Int) := of_decide_eq_true (by first | (with_reducible assumption) | assumption)
                        obtain ⟨ad1101, A1101_0, c1101_0, e1101, hx1101_0, hl1101_0, hi1101_0⟩ := at_L2 (Kd.S_reads' HO_1101002.out).2.2 x6_2 p1101 q1101
                        cases e1101
                        obtain ⟨ce1101, hce1101, hMe1101, hcc1101⟩ := Kd.S_get HO_1101002.out [] x6_2 p1101 (by first | exact q1101 | exact of_decide_eq_true (by first | (with_reducible assumption) | assumption) | (have e_ := (Kd.S_reads' HO_1101002.out).1; omega))
                        obtain ⟨ve1101_0, rfl, ge1101_0⟩ := hMe1101
                        have hv1101_0 := hcc1101 0 _ rfl
                        rw [Nat.add_zero, show ((Kd.slice 5 (Kd.int .u8))).sz = 1 from rfl, Nat.mul_one] at hv1101_0
                        replace hv1101_0 := Option.some.inj (hv1101_0.symm.trans hx1101_0)
                        rw [hv1101_0] at ge1101_0
                        have HL1101_0 := Aside0.mk (show Kd.R (Kd.int .u8) 5 _ _ _ _ (rd_L2 t1097 x6_2) from ge1101_0)
                        clear hv1101_0 ge1101_0
                        clear hcc1101 hce1101
                        have HR1101_0 := Aside0.mk hi1101_0
                        have HC1101_0 := Aside0.mk hl1101_0
                        clear hi1101_0 hl1101_0
                        replace p1101 := eq_true p1101
                        replace q1101 := eq_true q1101
                        have p1102 : 0 ≤ (x6_2 : Int) := of_decide_eq_true (by first | (with_reducible assumption) | assumption)
                        have q1102 : x6_2 < (t1083.length : Int) := of_decide_eq_true (by first | (with_reducible assumption) | assumption)
                        obtain ⟨ad1102, A1102_0, c1102_0, e1102, hx1102_0, hl1102_0, hi1102_0⟩ := at_L2 (Kd.S_reads' HO_3.out).2.2 x6_2 p1102 q1102
                        cases e1102
                        obtain ⟨ce1102, hce1102, hMe1102, hcc1102⟩ := Kd.S_get HO_3.out [] x6_2 p1102 (by first | exact q1102 | exact of_decide_eq_true (by first | (with_reducible assumption) | assumption) | (have e_ := (Kd.S_reads' HO_3.out).1; omega))
                        obtain ⟨ve1102_0, rfl, ge1102_0⟩ := hMe1102
                        have hv1102_0 := hcc1102 0 _ rfl
                        rw [Nat.add_zero, show ((Kd.slice 5 (Kd.int .u8))).sz = 1 from rfl, Nat.mul_one] at hv1102_0
                        replace hv1102_0 := Option.some.inj (hv1102_0.symm.trans hx1102_0)
                        rw [hv1102_0] at ge1102_0
                        have HL1102_0 := Aside0.mk (show Kd.R (Kd.int .u8) 5 _ _ _ _ (rd_L2 t1083 x6_2) from ge1102_0)
                        clear hv1102_0 ge1102_0
                        clear hcc1102 hce1102
                        have HR1102_0 := Aside0.mk hi1102_0
                        have HC1102_0 := Aside0.mk hl1102_0
                        clear hi1102_0 hl1102_0
                        replace p1102 := eq_true p1102
                        replace q1102 := eq_true q1102
                        refine start_ (n := 11) (S := fun w' => w'.cell? ⟨gb1100, 0, none⟩ = some (.int .i64 t1095) ∧ w'.cell? ⟨gb1100, 1, none⟩ = some (.int .i64 t1096) ∧ w'.cell? ⟨gb1100, 2, none⟩ = some (.slice (some ad1101) t1097.length co19) ∧ w'.cell? (ad1101.add (x6_2).toNat) = some (.slice A1101_0 (rd_L2 t1097 x6_2).length c1101_0) ∧ w'.cell? (ad1102.add (x6_2).toNat) = some (.slice A1102_0 (rd_L2 t1083 x6_2).length c1102_0)) (ds := []) #[false, false, false, false, false, false, false, false, false, false, false] (by kernel_rfl) rfl rfl ⟨(blk_cell BK1100.out 0).trans (by first | rfl | (simp only [*] <;> rfl)), (blk_cell BK1100.out 1).trans (by first | rfl | (simp only [*] <;> rfl)), (blk_cell BK1100.out 2).trans (by first | rfl | (simp only [*] <;> rfl)), hx1101_0, hx1102_0⟩ (fun hHeld => ?_); refine with_tabW laws_FnWords.tab13 laws_FnWords.bits13 (fun HT_ HW_ => ?_)
                        generalize wr.drew = w31 at HO_3 HO_1091001 HO_1101002 BK1090 BK1100 HB HL1101_0 HL1102_0 HR1101_0 HR1102_0 hx1101_0 hx1102_0 hHeld ⊢
                        refine pure_ (i := 0) (N := some 44) (v := ?_) (a' := ?_) #[true, false, false, false, false, false, false, false, false, false, false] rfl rfl (any_of HT_.out (by kernel_rfl)) (fun _ _ _ h => h) (Or.inl ⟨by rfl, ?_⟩) ?_ ?_
                        rotate_left
                        · intro w'
                          go_simp
                          with_reducible rfl
                        rotate_left
                        · simp only [Act.put, List.setIfInBounds_toArray, List.set_cons_zero, List.set_cons_succ, i64_w, i32_w]
                          rfl
                        refine pure_ (i := 2) (N := some 46) (v := ?_) (a' := ?_) #[true, false, true, false, false, false, false, false, false, false, false] rfl rfl (any_of HT_.out (by kernel_rfl)) (fun _ _ _ h => h) (Or.inl ⟨by rfl, ?_⟩) ?_ ?_
                        rotate_left
                        · intro w'
                          go_simp
                          with_reducible rfl
                        rotate_left
                        · simp only [Act.put, List.setIfInBounds_toArray, List.set_cons_zero, List.set_cons_succ, i64_w, i32_w]
                          rfl
                        refine pure_ (i := 5) (N := some 49) (v := ?_) (a' := ?_) #[true, false, true, false, false, true, false, false, false, false, false] rfl rfl (any_of HT_.out (by kernel_rfl)) (fun _ _ _ h => h) (Or.inl ⟨by rfl, ?_⟩) ?_ ?_
                        rotate_left
                        · intro w'
                          go_simp
                          with_reducible rfl
                        rotate_left
                        · simp only [Act.put, List.setIfInBounds_toArray, List.set_cons_zero, List.set_cons_succ, i64_w, i32_w]
                          rfl
                        refine pure_ (i := 6) (N := some 50) (v := ?_) (a' := ?_) #[true, false, true, false, false, true, true, false, false, false, false] rfl rfl (any_of HT_.out (by kernel_rfl)) (fun _ _ _ h => h) (Or.inl ⟨by rfl, ?_⟩) ?_ ?_
                        rotate_left
                        · intro w'
                          go_simp
                          with_reducible rfl
                        rotate_left
                        · simp only [Act.put, List.setIfInBounds_toArray, List.set_cons_zero, List.set_cons_succ, i64_w, i32_w]
                          rfl
                        refine pure_ (i := 7) (N := some 51) (v := ?_) (a' := ?_) #[true, false, true, false, false, true, true, true, false, false, false] rfl rfl (any_of HT_.out (by kernel_rfl)) (fun _ _ _ h => h) (Or.inl ⟨by rfl, ?_⟩) ?_ ?_
                        rotate_left
                        · intro w'
                          go_simp
                          with_reducible rfl
                        rotate_left
                        · simp only [Act.put, List.setIfInBounds_toArray, List.set_cons_zero, List.set_cons_succ, i64_w, i32_w]
                          rfl
                        refine take_ (i := 1) (N := some 45) (v := ?_) (a' := ?_) #[true, true, true, false, false, true, true, true, false, false, false] rfl rfl (take_ofW HT_.out HW_.out (by kernel_rfl)) (fun _ _ _ h => h) (Or.inl ⟨by rfl, ?_⟩) hHeld ?_ ?_
                        rotate_left
                        · rintro w' ⟨s0, s1, s2, s3, s4⟩
                          go_simp
                          with_reducible rfl
                        rotate_left
                        · simp only [Act.put, List.setIfInBounds_toArray, List.set_cons_zero, List.set_cons_succ, i64_w, i32_w]
                          rfl
                        refine pure_ (i := 3) (N := some 47) (v := ?_) (a' := ?_) #[true, true, true, true, false, true, true, true, false, false, false] rfl rfl (any_of HT_.out (by kernel_rfl)) (fun _ _ _ h => h) (Or.inl ⟨by rfl, ?_⟩) ?_ ?_
                        rotate_left
                        · intro w'
                          go_simp
                          with_reducible rfl
                        rotate_left
                        · simp only [Act.put, List.setIfInBounds_toArray, List.set_cons_zero, List.set_cons_succ, i64_w, i32_w]
                          rfl
                        refine take_ (i := 4) (N := some 48) (v := ?_) (a' := ?_) #[true, true, true, true, true, true, true, true, false, false, false] rfl rfl (take_ofW HT_.out HW_.out (by kernel_rfl)) (fun _ _ _ h => h) (Or.inl ⟨by rfl, ?_⟩) hHeld ?_ ?_
                        rotate_left
                        · rintro w' ⟨s0, s1, s2, s3, s4⟩
                          go_simp
                          with_reducible rfl
                        rotate_left
                        · simp only [Act.put, List.setIfInBounds_toArray, List.set_cons_zero, List.set_cons_succ, i64_w, i32_w]
                          rfl
                        refine take_ (i := 8) (N := some 52) (v := ?_) (a' := ?_) #[true, true, true, true, true, true, true, true, true, false, false] rfl rfl (take_ofW HT_.out HW_.out (by kernel_rfl)) (fun _ _ _ h => h) (Or.inl ⟨by rfl, ?_⟩) hHeld ?_ ?_
                        rotate_left
                        · rintro w' ⟨s0, s1, s2, s3, s4⟩
                          go_simp
                          with_reducible rfl
                        rotate_left
                        · simp only [Act.put, List.setIfInBounds_toArray, List.set_cons_zero, List.set_cons_succ, i64_w, i32_w]
                          rfl
                        refine one_ (i := 9) (N := some 53) #[true, true, true, true, true, true, true, true, true, true, false] rfl rfl (one_of HT_.out (by kernel_rfl)) (by decide) (fun K hK => ?_)
                        refine goes_ Try.func31 (by kernel_rfl) rfl #[.slice A1101_0 (rd_L2 t1097 x6_2).length c1101_0, .slice A1102_0 (rd_L2 t1083 x6_2).length c1102_0] (by rfl) rfl rfl (by (try simp only [List.map_toArray, List.map_cons, List.map_nil]); first | done | rfl | (simp only [List.length_drop, List.length_take]; rfl)) ?_
                        with_reducible refine (laws_lwBytes.calls _ _ (rd_L2 t1097 x6_2) _ _ (rd_L2 t1083 x6_2) true _ ?side1 ?side2 ?side3 ?side4 A29.out).mono ?_
                        (case side1 => repeat (first | exact (by repeat (first | (with_reducible exact HR1101_0.out) | (with_reducible refine Kd.C_alloc ?_ _) | (with_reducible refine Kd.C_drewN ?_ _) | (with_reducible refine Kd.C_drew ?_) | exact HR1101_0.out)) | (with_reducible refine Kd.C_alloc ?_ _) | (with_reducible refine Kd.C_drewN ?_ _) | (with_reducible refine Kd.C_drew ?_)))
                        (case side2 => exact HC1101_0.out)
                        (case side3 => repeat (first | exact (by repeat (first | (with_reducible exact HR1102_0.out) | (with_reducible refine Kd.C_alloc ?_ _) | (with_reducible refine Kd.C_drewN ?_ _) | (with_reducible refine Kd.C_drew ?_) | exact HR1102_0.out)) | (with_reducible refine Kd.C_alloc ?_ _) | (with_reducible refine Kd.C_drewN ?_ _) | (with_reducible refine Kd.C_drew ?_)))
                        (case side4 => exact HC1102_0.out)
                        rintro e w' ⟨rfl, ⟨nd, rfl⟩⟩
                        refine ⟨_, rfl, ?_⟩
                        refine hK.out _ _ ⟨(blk_cell BK1100.out 0).trans (by first | rfl | (simp only [*] <;> rfl)), (blk_cell BK1100.out 1).trans (by first | rfl | (simp only [*] <;> rfl)), (blk_cell BK1100.out 2).trans (by first | rfl | (simp only [*] <;> rfl)), hHeld.2.2.2.1, hHeld.2.2.2.2⟩ (fun hHeld => ?_)
                        clear hK K
                        refine norm_ (a' := ?_) ?_ ?_
                        rotate_left
                        · show Act.put _ (some 53) _ = _
                          simp only [Act.put, List.setIfInBounds_toArray, List.set_cons_zero, List.set_cons_succ, i64_w, i32_w]
                          rfl
                        refine pure_ (i := 10) (N := some 54) (v := ?_) (a' := ?_) #[true, true, true, true, true, true, true, true, true, true, true] rfl rfl (any_of HT_.out (by kernel_rfl)) (fun _ _ _ h => h) (Or.inl ⟨by rfl, ?_⟩) ?_ ?_
                        rotate_left
                        · intro w'
                          go_simp
                          with_reducible rfl
                        rotate_left
                        · simp only [Act.put, List.setIfInBounds_toArray, List.set_cons_zero, List.set_cons_succ, i64_w, i32_w]
                          rfl
                        refine done_ (done_of HT_.out (by kernel_rfl)) ?_
                        try go_wp2
                        go_roundg k2
                        case measure => have := HJ7.out; have := HK2.out; omega
                        case rel => exact ⟨(wrap64 (x6_2 + 1)), (by first | rfl | (simp; done) | (simp [*]; done)), H', ⟨by have := HJ7.out; have := HK2.out; omega⟩, ⟨by (with_reducible repeat (first | apply Kd.S_alloc | apply Kd.S_drewN | apply Kd.S_drew)); exact HO_3.out⟩, ⟨by (with_reducible repeat (first | apply Kd.R_alloc | apply Kd.R_drewN | apply Kd.R_drew)); exact HO_1091001.out⟩, ⟨by (with_reducible repeat (first | apply Kd.S_alloc | apply Kd.S_drewN | apply Kd.S_drew)); exact HO_1101002.out⟩, ⟨by (with_reducible repeat (first | refine blk_drewN ?_ _ | refine blk_drew ?_ | refine blk_alloc ?_ _)); exact BK1090.out⟩, ⟨by (with_reducible repeat (first | refine blk_drewN ?_ _ | refine blk_drew ?_ | refine blk_alloc ?_ _)); exact BK1100.out⟩, ⟨by repeat (first | (with_reducible first | exact HB.out | apply below_alloc | apply pw_below_drewN | apply below_drew1 | refine below_set ?_ GE1090.out | refine below_set ?_ GE1100.out) | exact HB.out)⟩⟩
                      · replace c30 := Bool.eq_false_iff.mpr c30
                        subst c30
                        have H1 : (none) = some r := by rw [if_neg (show ¬ (false = true) by decide)] at H; exact H
                        clear H
                        have H := H1
                        clear H1
                        exact absurd H (by simp)
                    · rw [if_neg c28] at H
                      exact absurd H (by simp)
                  · rw [if_neg c27] at H
                    exact absurd H (by simp)
                · rw [if_neg c26] at H
                  have c26b0 : decide (x6_2 < (t1083.length : Int)) = false := decide_eq_false c26
                  clear c26
                  replace H := Option.bind_eq_some_iff.mp H
                  obtain ⟨t1104, A320, H⟩ := H
                  replace H : ((impl_UnpackWords.f k2 t1104).bind fun bt1107 => (if bt1107.1 = 0 then ((impl_PackWords.f k2 bt1107.2.2).bind fun bt1113 => ((laws_lwBytes.f bt1113.2 t1104).bind fun t1117 => (some t1117))) else ((spec_UnpackWords.f k2 t1104).bind fun bt1118 => (if bt1118.1 = bt1107.1 then (some (decide (bt1107.2.1 ≤ (t1104.length : Int)))) else (none))))) = some r := H
                  have A32 := Aside0.mk A320
                  clear A320
                  replace H := Option.bind_eq_some_iff.mp H
                  obtain ⟨⟨t1107, t1108, t1109⟩, A330, H⟩ := H
                  replace H : (if t1107 = 0 then ((impl_PackWords.f k2 t1109).bind fun bt1113 => ((laws_lwBytes.f bt1113.2 t1104).bind fun t1117 => (some t1117))) else ((spec_UnpackWords.f k2 t1104).bind fun bt1118 => (if bt1118.1 = t1107 then (some (decide (t1108 ≤ (t1104.length : Int)))) else (none)))) = some r := H
                  have A33 := Aside0.mk A330
                  clear A330
                  by_cases c34 : t1107 = 0
                  · rw [if_pos c34] at H
                    have c34b0 : (t1107 == 0) = true := beq_iff_eq.mpr c34
                    have c34b1 : (t1107 != 0) = false := bne_eq_false_iff_eq.mpr c34
                    clear c34
                    replace H := Option.bind_eq_some_iff.mp H
                    obtain ⟨⟨t1113, t1114⟩, A350, H⟩ := H
                    replace H : ((laws_lwBytes.f t1114 t1104).bind fun t1117 => (some t1117)) = some r := H
                    have A35 := Aside0.mk A350
                    clear A350
                    replace H := Option.bind_eq_some_iff.mp H
                    obtain ⟨t1117, A360, H⟩ := H
                    replace H : (some t1117) = some r := H
                    have A36 := Aside0.mk A360
                    clear A360
                    obtain rfl := Option.some.inj H
                    go_wp2_with (first | ((with_reducible refine gate_callee (f := 51) rfl ?_); refine goesL_ (some 56) rfl rfl Try.func51 (by kernel_rfl) rfl #[.slice A0 l0.length c0] rfl (by (try simp only [List.map_toArray, List.map_cons, List.map_nil]); first | done | rfl | (simp only [List.length_drop, List.length_take]; rfl)) ?_; (with_reducible refine (spec_DrawUnpackWords.calls k2 _ _ l0 t1104 _ ?side1 ?side2 A32.out).mono ?_); (case side1 => repeat (first | exact (Kd.C_below HR0.out HB.out) | (with_reducible refine Kd.C_alloc ?_ _) | (with_reducible refine Kd.C_drewN ?_ _) | (with_reducible refine Kd.C_drew ?_))); (case side2 => exact HC0.out); rintro e w37 ⟨v1105, rfl, ho0, hb⟩; refine ⟨_, rfl, ?_⟩; have n0_ := Aside0.mk (Kd.S_elder' (by (with_reducible repeat (first | apply Kd.S_alloc | apply Kd.S_drewN | apply Kd.S_drew)); exact HO_3.out) (Kd.R_base ho0) hb); have n1_ := Aside0.mk (Kd.R_elder' (by (with_reducible repeat (first | apply Kd.R_alloc | apply Kd.R_drewN | apply Kd.R_drew)); exact HO_1091001.out) (Kd.R_base ho0) hb); have n2_ := Aside0.mk (Kd.S_elder' (by (with_reducible repeat (first | apply Kd.S_alloc | apply Kd.S_drewN | apply Kd.S_drew)); exact HO_1101002.out) (Kd.R_base ho0) hb); have n3_ := Aside0.mk (Kd.R_lower (Kd.R_new' ho0 (Kd.R_lt (by (with_reducible repeat (first | apply Kd.R_alloc | apply Kd.R_drewN | apply Kd.R_drew)); exact HO_1091001.out))) (below_size (by repeat (first | (with_reducible first | exact HB.out | apply below_alloc | apply pw_below_drewN | apply below_drew1 | refine below_set ?_ GE1090.out | refine below_set ?_ GE1100.out) | exact HB.out)))); have n4_ := Aside0.mk (blk_below (g := gb1090) (o := .cells #[.int .i64 t1086, .slice Ao14 t1087.length co14] 24 (0, 0)) (by (with_reducible repeat (first | refine blk_drewN ?_ _ | refine blk_drew ?_ | refine blk_alloc ?_ _)); exact BK1090.out) hb); have n5_ := Aside0.mk (blk_below (g := gb1100) (o := .cells #[.int .i64 t1095, .int .i64 t1096, .slice Ao19 t1097.length co19] 50 (0, 0)) (by (with_reducible repeat (first | refine blk_drewN ?_ _ | refine blk_drew ?_ | refine blk_alloc ?_ _)); exact BK1100.out) hb); have n6_ := Aside0.mk (below_step (by repeat (first | (with_reducible first | exact HB.out | apply below_alloc | apply pw_below_drewN | apply below_drew1 | refine below_set ?_ GE1090.out | refine below_set ?_ GE1100.out) | exact HB.out)) hb); clear HO_3; clear HO_1091001; clear HO_1101002; clear BK1090; clear BK1100; clear HB; have HO_3 := n0_; have HO_1091001 := n1_; have HO_1101002 := n2_; have HO1106 := n3_; have BK1090 := n4_; have BK1100 := n5_; have HB := n6_; clear n0_ n1_ n2_ n3_ n4_ n5_ n6_; (try clear hb); (try clear hb2); (try clear hk); (try clear hi); (try clear ho0); obtain ⟨Ao38, co38, eo38⟩ := Kd.R_slice HO1106.out; subst eo38) | ((with_reducible refine gate_callee (f := 38) rfl ?_); refine goesL_ (some 58) rfl rfl Try.func38 (by kernel_rfl) rfl #[.slice Ao38 t1104.length co38] rfl (by (try simp only [List.map_toArray, List.map_cons, List.map_nil]); first | done | rfl | (simp only [List.length_drop, List.length_take]; rfl)) ?_; (with_reducible refine (impl_UnpackWords.calls k2 _ _ t1104 t1107 t1108 t1109 _ ?side1 ?side2 A33.out).mono ?_); (case side1 => repeat (first | exact (Kd.R_reads' HO1106.out).2.2 | (with_reducible refine Kd.C_alloc ?_ _) | (with_reducible refine Kd.C_drewN ?_ _) | (with_reducible refine Kd.C_drew ?_))); (case side2 => exact (Kd.R_reads' HO1106.out).2.1); rintro e w39 ⟨v1110, rfl, ho0, hb⟩; refine ⟨_, rfl, ?_⟩; have n0_ := Aside0.mk (Kd.S_elder' (by (with_reducible repeat (first | apply Kd.S_alloc | apply Kd.S_drewN | apply Kd.S_drew)); exact HO_3.out) (Kd.S_base ho0) hb); have n1_ := Aside0.mk (Kd.R_below (by (with_reducible repeat (first | apply Kd.R_alloc | apply Kd.R_drewN | apply Kd.R_drew)); exact HO_1091001.out) hb); have n2_ := Aside0.mk (Kd.S_elder' (by (with_reducible repeat (first | apply Kd.S_alloc | apply Kd.S_drewN | apply Kd.S_drew)); exact HO_1101002.out) (Kd.S_base ho0) hb); have n3_ := Aside0.mk (Kd.R_below (by (with_reducible repeat (first | apply Kd.R_alloc | apply Kd.R_drewN | apply Kd.R_drew)); exact HO1106.out) hb); have n4_ := Aside0.mk (Kd.S_lower (Kd.S_new' (Kd.S_new' (Kd.S_new' (Kd.S_new' ho0 (Kd.S_lt (by (with_reducible repeat (first | apply Kd.S_alloc | apply Kd.S_drewN | apply Kd.S_drew)); exact HO_3.out))) (Kd.R_lt (by (with_reducible repeat (first | apply Kd.R_alloc | apply Kd.R_drewN | apply Kd.R_drew)); exact HO_1091001.out))) (Kd.S_lt (by (with_reducible repeat (first | apply Kd.S_alloc | apply Kd.S_drewN | apply Kd.S_drew)); exact HO_1101002.out))) (Kd.R_lt (by (with_reducible repeat (first | apply Kd.R_alloc | apply Kd.R_drewN | apply Kd.R_drew)); exact HO1106.out))) (below_size (by repeat (first | (with_reducible first | exact HB.out | apply below_alloc | apply pw_below_drewN | apply below_drew1 | refine below_set ?_ GE1090.out | refine below_set ?_ GE1100.out) | exact HB.out)))); have n5_ := Aside0.mk (blk_below (g := gb1090) (o := .cells #[.int .i64 t1086, .slice Ao14 t1087.length co14] 24 (0, 0)) (by (with_reducible repeat (first | refine blk_drewN ?_ _ | refine blk_drew ?_ | refine blk_alloc ?_ _)); exact BK1090.out) hb); have n6_ := Aside0.mk (blk_below (g := gb1100) (o := .cells #[.int .i64 t1095, .int .i64 t1096, .slice Ao19 t1097.length co19] 50 (0, 0)) (by (with_reducible repeat (first | refine blk_drewN ?_ _ | refine blk_drew ?_ | refine blk_alloc ?_ _)); exact BK1100.out) hb); have n7_ := Aside0.mk (below_step (by repeat (first | (with_reducible first | exact HB.out | apply below_alloc | apply pw_below_drewN | apply below_drew1 | refine below_set ?_ GE1090.out | refine below_set ?_ GE1100.out) | exact HB.out)) hb); clear HO_3; clear HO_1091001; clear HO_1101002; clear HO1106; clear BK1090; clear BK1100; clear HB; have HO_3 := n0_; have HO_1091001 := n1_; have HO_1101002 := n2_; have HO1106 := n3_; have HO1111 := n4_; have BK1090 := n5_; have BK1100 := n6_; have HB := n7_; clear n0_ n1_ n2_ n3_ n4_ n5_ n6_ n7_; (try clear hb); (try clear hb2); (try clear hk); (try clear hi); (try clear ho0)) | ((with_reducible refine gate_dst (N := 8) rfl ?_); (try (refine gate_guard (by rfl) ?_; dsimp only)); refine box_event ?hg (N := 8) ?hd (cs := #[.int .i64 0, .int .i64 0, .slice none 0 0]) (t := 50) ?hr ?_; (case hd => rfl); (case hg => rfl); (case hr => first | (go_simp; done) | (go_simp; rfl)); intro gb1112 hg w40 hbox hb; have n0_ := Aside0.mk (Kd.S_below (by (with_reducible repeat (first | apply Kd.S_alloc | apply Kd.S_drewN | apply Kd.S_drew)); exact HO_3.out) hb); have n1_ := Aside0.mk (Kd.R_below (by (with_reducible repeat (first | apply Kd.R_alloc | apply Kd.R_drewN | apply Kd.R_drew)); exact HO_1091001.out) hb); have n2_ := Aside0.mk (Kd.S_below (by (with_reducible repeat (first | apply Kd.S_alloc | apply Kd.S_drewN | apply Kd.S_drew)); exact HO_1101002.out) hb); have n3_ := Aside0.mk (Kd.R_below (by (with_reducible repeat (first | apply Kd.R_alloc | apply Kd.R_drewN | apply Kd.R_drew)); exact HO1106.out) hb); have n4_ := Aside0.mk (Kd.S_below (by (with_reducible repeat (first | apply Kd.S_alloc | apply Kd.S_drewN | apply Kd.S_drew)); exact HO1111.out) hb); have n5_ := Aside0.mk (blk_below (g := gb1090) (o := .cells #[.int .i64 t1086, .slice Ao14 t1087.length co14] 24 (0, 0)) (by (with_reducible repeat (first | refine blk_drewN ?_ _ | refine blk_drew ?_ | refine blk_alloc ?_ _)); exact BK1090.out) hb); have n6_ := Aside0.mk (blk_below (g := gb1100) (o := .cells #[.int .i64 t1095, .int .i64 t1096, .slice Ao19 t1097.length co19] 50 (0, 0)) (by (with_reducible repeat (first | refine blk_drewN ?_ _ | refine blk_drew ?_ | refine blk_alloc ?_ _)); exact BK1100.out) hb); have n7_ := Aside0.mk (below_step (by repeat (first | (with_reducible first | exact HB.out | apply below_alloc | apply pw_below_drewN | apply below_drew1 | refine below_set ?_ GE1090.out | refine below_set ?_ GE1100.out) | exact HB.out)) hb); have n8_ := Aside0.mk (hbox); have n9_ := Aside0.mk ((by rw [hg]; exact (below_size (by repeat (first | (with_reducible first | exact HB.out | apply below_alloc | apply pw_below_drewN | apply below_drew1 | refine below_set ?_ GE1090.out | refine below_set ?_ GE1100.out) | exact HB.out))) : w.heap.size ≤ gb1112)); have n10_ := Aside0.mk ((by rw [hg]; exact (below_size (by repeat (first | (with_reducible first | exact HB.out | apply below_alloc | apply pw_below_drewN | apply below_drew1 | refine below_set ?_ GE1090.out | refine below_set ?_ GE1100.out) | exact HB.out))) : w.heap.size ≤ gb1112)); have n11_ := Aside0.mk ((by rw [hg]; exact Nat.ne_of_lt (blk_lt (g := gb1090) (o := .cells #[.int .i64 t1086, .slice Ao14 t1087.length co14] 24 (0, 0)) (by (with_reducible repeat (first | refine blk_drewN ?_ _ | refine blk_drew ?_ | refine blk_alloc ?_ _)); exact BK1090.out)) : gb1090 ≠ gb1112)); have n12_ := Aside0.mk ((by rw [hg]; exact Nat.ne_of_gt (blk_lt (g := gb1090) (o := .cells #[.int .i64 t1086, .slice Ao14 t1087.length co14] 24 (0, 0)) (by (with_reducible repeat (first | refine blk_drewN ?_ _ | refine blk_drew ?_ | refine blk_alloc ?_ _)); exact BK1090.out)) : gb1112 ≠ gb1090)); have n13_ := Aside0.mk ((by rw [hg]; exact Nat.ne_of_lt (blk_lt (g := gb1100) (o := .cells #[.int .i64 t1095, .int .i64 t1096, .slice Ao19 t1097.length co19] 50 (0, 0)) (by (with_reducible repeat (first | refine blk_drewN ?_ _ | refine blk_drew ?_ | refine blk_alloc ?_ _)); exact BK1100.out)) : gb1100 ≠ gb1112)); have n14_ := Aside0.mk ((by rw [hg]; exact Nat.ne_of_gt (blk_lt (g := gb1100) (o := .cells #[.int .i64 t1095, .int .i64 t1096, .slice Ao19 t1097.length co19] 50 (0, 0)) (by (with_reducible repeat (first | refine blk_drewN ?_ _ | refine blk_drew ?_ | refine blk_alloc ?_ _)); exact BK1100.out)) : gb1112 ≠ gb1100)); clear HO_3; clear HO_1091001; clear HO_1101002; clear HO1106; clear HO1111; clear BK1090; clear BK1100; clear HB; have HO_3 := n0_; have HO_1091001 := n1_; have HO_1101002 := n2_; have HO1106 := n3_; have HO1111 := n4_; have BK1090 := n5_; have BK1100 := n6_; have HB := n7_; have BK1112 := n8_; have GW1112 := n9_; have GE1112 := n10_; have NB1090_1112 := n11_; have NB1112_1090 := n12_; have NB1100_1112 := n13_; have NB1112_1100 := n14_; clear n0_ n1_ n2_ n3_ n4_ n5_ n6_ n7_ n8_ n9_ n10_ n11_ n12_ n13_ n14_; clear hb hbox hg; have hnb41 := NB1112_1090.out; have hnc41 := NB1090_1112.out; have hnb42 := NB1112_1100.out; have hnc42 := NB1100_1112.out; have hcz43_0 : w40.cell? ⟨gb1112, 0, none⟩ = some (.int .i64 0) := (blk_cell BK1112.out 0).trans (by first | rfl | (simp only [*] <;> rfl)); have hcz43_1 : w40.cell? ⟨gb1112, 1, none⟩ = some (.int .i64 0) := (blk_cell BK1112.out 1).trans (by first | rfl | (simp only [*] <;> rfl)); have hcz43_2 : w40.cell? ⟨gb1112, 2, none⟩ = some (.slice none 0 0) := (blk_cell BK1112.out 2).trans (by first | rfl | (simp only [*] <;> rfl)); have hfz43_0 := blk_frozen BK1112.out 0; have hfz43_1 := blk_frozen BK1112.out 1; have hfz43_2 := blk_frozen BK1112.out 2; obtain ⟨Ao44, co44, eo44⟩ := Kd.S_slice HO1111.out; subst eo44) | ((with_reducible refine gate_callee (f := 47) rfl ?_); refine goesL_ (some 77) rfl rfl Try.func47 (by kernel_rfl) rfl #[.slice Ao44 t1109.length co44] rfl (by (try simp only [List.map_toArray, List.map_cons, List.map_nil]); first | done | rfl | (simp only [List.length_drop, List.length_take]; rfl)) ?_; (with_reducible refine (impl_PackWords.calls k2 _ _ t1109 t1113 t1114 _ ?side1 ?side2 A35.out).mono ?_); (case side1 => refine (Kd.S_reads' (e := 22) (base := w.heap.size) (ok := fun k_ => ((((True ∧ some k_ ≠ (.slice Ao10 t1083.length co10 : Value).ownBlock) ∧ some k_ ≠ (.slice Ao14 t1087.length co14 : Value).ownBlock) ∧ some k_ ≠ (.slice Ao19 t1097.length co19 : Value).ownBlock) ∧ some k_ ≠ (.slice Ao38 t1104.length co38 : Value).ownBlock)) (n := t1109.length) (c := co44) ?_).2.2; exact (by (with_reducible repeat (first | apply Kd.S_alloc | apply Kd.S_drewN | apply Kd.S_drew)); exact (Kd.S_mono (Kd.S_far (p := ⟨gb1112, 2, none⟩) (Kd.S_far (p := ⟨gb1112, 1, none⟩) (Kd.S_far (p := ⟨gb1112, 0, none⟩) (Kd.S_types HO1111.out BK1112.out (by decide)) (fun _ hk => hk.2) (.int .i64 t1107)) (fun _ hk => hk.2) (.int .i64 t1108)) (fun _ hk => hk.2) (.slice Ao44 t1109.length co44)) (fun _ h_ => h_.1)))); (case side2 => exact (Kd.S_reads' HO1111.out).2.1); rintro e w45 ⟨v1115, rfl, ho0, hb⟩; refine ⟨_, rfl, ?_⟩; have n0_ := Aside0.mk (Kd.S_elder' (by (with_reducible repeat (first | apply Kd.S_alloc | apply Kd.S_drewN | apply Kd.S_drew)); exact (Kd.S_mono (Kd.S_far (p := ⟨gb1112, 2, none⟩) (Kd.S_far (p := ⟨gb1112, 1, none⟩) (Kd.S_far (p := ⟨gb1112, 0, none⟩) (Kd.S_types HO_3.out BK1112.out (by decide)) (fun _ hk => hk.2) (.int .i64 t1107)) (fun _ hk => hk.2) (.int .i64 t1108)) (fun _ hk => hk.2) (.slice Ao44 t1109.length co44)) (fun _ h_ => h_.1))) (Kd.R_base ho0) hb); have n1_ := Aside0.mk (Kd.R_elder' (by (with_reducible repeat (first | apply Kd.R_alloc | apply Kd.R_drewN | apply Kd.R_drew)); exact (Kd.R_mono (Kd.R_far (p := ⟨gb1112, 2, none⟩) (Kd.R_far (p := ⟨gb1112, 1, none⟩) (Kd.R_far (p := ⟨gb1112, 0, none⟩) (Kd.R_types HO_1091001.out BK1112.out (by decide)) (fun _ hk => hk.2) (.int .i64 t1107)) (fun _ hk => hk.2) (.int .i64 t1108)) (fun _ hk => hk.2) (.slice Ao44 t1109.length co44)) (fun _ h_ => h_.1))) (Kd.R_base ho0) hb); have n2_ := Aside0.mk (Kd.S_elder' (by (with_reducible repeat (first | apply Kd.S_alloc | apply Kd.S_drewN | apply Kd.S_drew)); exact (Kd.S_mono (Kd.S_far (p := ⟨gb1112, 2, none⟩) (Kd.S_far (p := ⟨gb1112, 1, none⟩) (Kd.S_far (p := ⟨gb1112, 0, none⟩) (Kd.S_types HO_1101002.out BK1112.out (by decide)) (fun _ hk => hk.2) (.int .i64 t1107)) (fun _ hk => hk.2) (.int .i64 t1108)) (fun _ hk => hk.2) (.slice Ao44 t1109.length co44)) (fun _ h_ => h_.1))) (Kd.R_base ho0) hb); have n3_ := Aside0.mk (Kd.R_elder' (by (with_reducible repeat (first | apply Kd.R_alloc | apply Kd.R_drewN | apply Kd.R_drew)); exact (Kd.R_mono (Kd.R_far (p := ⟨gb1112, 2, none⟩) (Kd.R_far (p := ⟨gb1112, 1, none⟩) (Kd.R_far (p := ⟨gb1112, 0, none⟩) (Kd.R_types HO1106.out BK1112.out (by decide)) (fun _ hk => hk.2) (.int .i64 t1107)) (fun _ hk => hk.2) (.int .i64 t1108)) (fun _ hk => hk.2) (.slice Ao44 t1109.length co44)) (fun _ h_ => h_.1))) (Kd.R_base ho0) hb); have n4_ := Aside0.mk (Kd.S_elder' (by (with_reducible repeat (first | apply Kd.S_alloc | apply Kd.S_drewN | apply Kd.S_drew)); exact (Kd.S_mono (Kd.S_far (p := ⟨gb1112, 2, none⟩) (Kd.S_far (p := ⟨gb1112, 1, none⟩) (Kd.S_far (p := ⟨gb1112, 0, none⟩) (Kd.S_types HO1111.out BK1112.out (by decide)) (fun _ hk => hk.2) (.int .i64 t1107)) (fun _ hk => hk.2) (.int .i64 t1108)) (fun _ hk => hk.2) (.slice Ao44 t1109.length co44)) (fun _ h_ => h_.1))) (Kd.R_base ho0) hb); have n5_ := Aside0.mk (Kd.R_lower (Kd.R_new' (Kd.R_new' ho0 (Kd.R_lt (by (with_reducible repeat (first | apply Kd.R_alloc | apply Kd.R_drewN | apply Kd.R_drew)); exact (Kd.R_mono (Kd.R_far (p := ⟨gb1112, 2, none⟩) (Kd.R_far (p := ⟨gb1112, 1, none⟩) (Kd.R_far (p := ⟨gb1112, 0, none⟩) (Kd.R_types HO_1091001.out BK1112.out (by decide)) (fun _ hk => hk.2) (.int .i64 t1107)) (fun _ hk => hk.2) (.int .i64 t1108)) (fun _ hk => hk.2) (.slice Ao44 t1109.length co44)) (fun _ h_ => h_.1))))) (Kd.R_lt (by (with_reducible repeat (first | apply Kd.R_alloc | apply Kd.R_drewN | apply Kd.R_drew)); exact (Kd.R_mono (Kd.R_far (p := ⟨gb1112, 2, none⟩) (Kd.R_far (p := ⟨gb1112, 1, none⟩) (Kd.R_far (p := ⟨gb1112, 0, none⟩) (Kd.R_types HO1106.out BK1112.out (by decide)) (fun _ hk => hk.2) (.int .i64 t1107)) (fun _ hk => hk.2) (.int .i64 t1108)) (fun _ hk => hk.2) (.slice Ao44 t1109.length co44)) (fun _ h_ => h_.1))))) (below_size (by repeat (first | (with_reducible first | exact HB.out | apply below_alloc | apply pw_below_drewN | apply below_drew1 | refine below_set ?_ GE1090.out | refine below_set ?_ GE1100.out | refine below_set ?_ GE1112.out) | exact HB.out)))); have n6_ := Aside0.mk (blk_below (g := gb1090) (o := .cells #[.int .i64 t1086, .slice Ao14 t1087.length co14] 24 (0, 0)) (by (with_reducible repeat (first | refine blk_drewN ?_ _ | refine blk_drew ?_ | refine blk_alloc ?_ _)); refine blk_far ?_ NB1090_1112.out _; (with_reducible repeat (first | refine blk_drewN ?_ _ | refine blk_drew ?_ | refine blk_alloc ?_ _)); refine blk_far ?_ NB1090_1112.out _; (with_reducible repeat (first | refine blk_drewN ?_ _ | refine blk_drew ?_ | refine blk_alloc ?_ _)); refine blk_far ?_ NB1090_1112.out _; (with_reducible repeat (first | refine blk_drewN ?_ _ | refine blk_drew ?_ | refine blk_alloc ?_ _)); exact BK1090.out) hb); have n7_ := Aside0.mk (blk_below (g := gb1100) (o := .cells #[.int .i64 t1095, .int .i64 t1096, .slice Ao19 t1097.length co19] 50 (0, 0)) (by (with_reducible repeat (first | refine blk_drewN ?_ _ | refine blk_drew ?_ | refine blk_alloc ?_ _)); refine blk_far ?_ NB1100_1112.out _; (with_reducible repeat (first | refine blk_drewN ?_ _ | refine blk_drew ?_ | refine blk_alloc ?_ _)); refine blk_far ?_ NB1100_1112.out _; (with_reducible repeat (first | refine blk_drewN ?_ _ | refine blk_drew ?_ | refine blk_alloc ?_ _)); refine blk_far ?_ NB1100_1112.out _; (with_reducible repeat (first | refine blk_drewN ?_ _ | refine blk_drew ?_ | refine blk_alloc ?_ _)); exact BK1100.out) hb); have n8_ := Aside0.mk (blk_below (g := gb1112) (o := .cells #[.int .i64 t1107, .int .i64 t1108, .slice Ao44 t1109.length co44] 50 (0, 0)) (by (with_reducible repeat (first | refine blk_drewN ?_ _ | refine blk_drew ?_ | refine blk_alloc ?_ _)); refine blk_put (cs := #[.int .i64 t1107, .int .i64 t1108, .slice none 0 0]) ?_ 2 _ rfl; (with_reducible repeat (first | refine blk_drewN ?_ _ | refine blk_drew ?_ | refine blk_alloc ?_ _)); refine blk_put (cs := #[.int .i64 t1107, .int .i64 0, .slice none 0 0]) ?_ 1 _ rfl; (with_reducible repeat (first | refine blk_drewN ?_ _ | refine blk_drew ?_ | refine blk_alloc ?_ _)); refine blk_put (cs := #[.int .i64 0, .int .i64 0, .slice none 0 0]) ?_ 0 _ rfl; (with_reducible repeat (first | refine blk_drewN ?_ _ | refine blk_drew ?_ | refine blk_alloc ?_ _)); exact BK1112.out) hb); have n9_ := Aside0.mk (below_step (by repeat (first | (with_reducible first | exact HB.out | apply below_alloc | apply pw_below_drewN | apply below_drew1 | refine below_set ?_ GE1090.out | refine below_set ?_ GE1100.out | refine below_set ?_ GE1112.out) | exact HB.out)) hb); clear HO_3; clear HO_1091001; clear HO_1101002; clear HO1106; clear HO1111; clear BK1090; clear BK1100; clear BK1112; clear HB; have HO_3 := n0_; have HO_1091001 := n1_; have HO_1101002 := n2_; have HO1106 := n3_; have HO1111 := n4_; have HO1116 := n5_; have BK1090 := n6_; have BK1100 := n7_; have BK1112 := n8_; have HB := n9_; clear n0_ n1_ n2_ n3_ n4_ n5_ n6_ n7_ n8_ n9_; (try clear hb); (try clear hb2); (try clear hk); (try clear hi); (try clear ho0); obtain ⟨Ao46, co46, eo46⟩ := Kd.R_slice HO1116.out; subst eo46) | ((with_reducible refine gate_callee (f := 31) rfl ?_); refine goesL_ (some 80) rfl rfl Try.func31 (by kernel_rfl) rfl #[.slice Ao46 t1114.length co46, .slice Ao38 t1104.length co38] rfl (by (try simp only [List.map_toArray, List.map_cons, List.map_nil]); first | done | rfl | (simp only [List.length_drop, List.length_take]; rfl)) ?_; (with_reducible refine (laws_lwBytes.calls _ _ t1114 _ _ t1104 t1117 _ ?side1 ?side2 ?side3 ?side4 A36.out).mono ?_); (case side1 => repeat (first | exact (Kd.R_reads' HO1116.out).2.2 | (with_reducible refine Kd.C_alloc ?_ _) | (with_reducible refine Kd.C_drewN ?_ _) | (with_reducible refine Kd.C_drew ?_))); (case side2 => exact (Kd.R_reads' HO1116.out).2.1); (case side3 => repeat (first | exact (Kd.R_reads' HO1106.out).2.2 | (with_reducible refine Kd.C_alloc ?_ _) | (with_reducible refine Kd.C_drewN ?_ _) | (with_reducible refine Kd.C_drew ?_))); (case side4 => exact (Kd.R_reads' HO1106.out).2.1); rintro e w' ⟨rfl, ⟨nd, rfl⟩⟩; refine ⟨_, rfl, ?_⟩))
                    go_ret
                    exact ⟨by first | rfl | (simp [errW_none, errW_some] <;> rfl) | (simp [*, errW_none, errW_some] <;> rfl), by repeat (first | (with_reducible first | exact HB.out | apply below_alloc | apply pw_below_drewN | apply below_drew1 | refine below_set ?_ GE1090.out | refine below_set ?_ GE1100.out | refine below_set ?_ GE1112.out) | exact HB.out)⟩
                  · rw [if_neg c34] at H
                    have c34b0 : (t1107 == 0) = false := beq_eq_false_iff_ne.mpr c34
                    have c34b1 : (t1107 != 0) = true := bne_iff_ne.mpr c34
                    replace H := Option.bind_eq_some_iff.mp H
                    obtain ⟨⟨t1118, t1119, t1120⟩, A470, H⟩ := H
                    replace H : (if t1118 = t1107 then (some (decide (t1108 ≤ (t1104.length : Int)))) else (none)) = some r := H
                    have A47 := Aside0.mk A470
                    clear A470
                    by_cases c48 : t1118 = t1107
                    · rw [if_pos c48] at H
                      have c48b0 : (t1118 == t1107) = true := beq_iff_eq.mpr c48
                      have c48b1 : (t1118 != t1107) = false := bne_eq_false_iff_eq.mpr c48
                      clear c48
                      obtain rfl := Option.some.inj H
                      try go_wp2_with (first | ((with_reducible refine gate_callee (f := 51) rfl ?_); refine goesL_ (some 56) rfl rfl Try.func51 (by kernel_rfl) rfl #[.slice A0 l0.length c0] rfl (by (try simp only [List.map_toArray, List.map_cons, List.map_nil]); first | done | rfl | (simp only [List.length_drop, List.length_take]; rfl)) ?_; (with_reducible refine (spec_DrawUnpackWords.calls k2 _ _ l0 t1104 _ ?side1 ?side2 A32.out).mono ?_); (case side1 => repeat (first | exact (Kd.C_below HR0.out HB.out) | (with_reducible refine Kd.C_alloc ?_ _) | (with_reducible refine Kd.C_drewN ?_ _) | (with_reducible refine Kd.C_drew ?_))); (case side2 => exact HC0.out); rintro e w49 ⟨v1105, rfl, ho0, hb⟩; refine ⟨_, rfl, ?_⟩; have n0_ := Aside0.mk (Kd.S_elder' (by (with_reducible repeat (first | apply Kd.S_alloc | apply Kd.S_drewN | apply Kd.S_drew)); exact HO_3.out) (Kd.R_base ho0) hb); have n1_ := Aside0.mk (Kd.R_elder' (by (with_reducible repeat (first | apply Kd.R_alloc | apply Kd.R_drewN | apply Kd.R_drew)); exact HO_1091001.out) (Kd.R_base ho0) hb); have n2_ := Aside0.mk (Kd.S_elder' (by (with_reducible repeat (first | apply Kd.S_alloc | apply Kd.S_drewN | apply Kd.S_drew)); exact HO_1101002.out) (Kd.R_base ho0) hb); have n3_ := Aside0.mk (Kd.R_lower (Kd.R_new' ho0 (Kd.R_lt (by (with_reducible repeat (first | apply Kd.R_alloc | apply Kd.R_drewN | apply Kd.R_drew)); exact HO_1091001.out))) (below_size (by repeat (first | (with_reducible first | exact HB.out | apply below_alloc | apply pw_below_drewN | apply below_drew1 | refine below_set ?_ GE1090.out | refine below_set ?_ GE1100.out) | exact HB.out)))); have n4_ := Aside0.mk (blk_below (g := gb1090) (o := .cells #[.int .i64 t1086, .slice Ao14 t1087.length co14] 24 (0, 0)) (by (with_reducible repeat (first | refine blk_drewN ?_ _ | refine blk_drew ?_ | refine blk_alloc ?_ _)); exact BK1090.out) hb); have n5_ := Aside0.mk (blk_below (g := gb1100) (o := .cells #[.int .i64 t1095, .int .i64 t1096, .slice Ao19 t1097.length co19] 50 (0, 0)) (by (with_reducible repeat (first | refine blk_drewN ?_ _ | refine blk_drew ?_ | refine blk_alloc ?_ _)); exact BK1100.out) hb); have n6_ := Aside0.mk (below_step (by repeat (first | (with_reducible first | exact HB.out | apply below_alloc | apply pw_below_drewN | apply below_drew1 | refine below_set ?_ GE1090.out | refine below_set ?_ GE1100.out) | exact HB.out)) hb); clear HO_3; clear HO_1091001; clear HO_1101002; clear BK1090; clear BK1100; clear HB; have HO_3 := n0_; have HO_1091001 := n1_; have HO_1101002 := n2_; have HO1106 := n3_; have BK1090 := n4_; have BK1100 := n5_; have HB := n6_; clear n0_ n1_ n2_ n3_ n4_ n5_ n6_; (try clear hb); (try clear hb2); (try clear hk); (try clear hi); (try clear ho0); obtain ⟨Ao50, co50, eo50⟩ := Kd.R_slice HO1106.out; subst eo50) | ((with_reducible refine gate_callee (f := 38) rfl ?_); refine goesL_ (some 58) rfl rfl Try.func38 (by kernel_rfl) rfl #[.slice Ao50 t1104.length co50] rfl (by (try simp only [List.map_toArray, List.map_cons, List.map_nil]); first | done | rfl | (simp only [List.length_drop, List.length_take]; rfl)) ?_; (with_reducible refine (impl_UnpackWords.calls k2 _ _ t1104 t1107 t1108 t1109 _ ?side1 ?side2 A33.out).mono ?_); (case side1 => repeat (first | exact (Kd.R_reads' HO1106.out).2.2 | (with_reducible refine Kd.C_alloc ?_ _) | (with_reducible refine Kd.C_drewN ?_ _) | (with_reducible refine Kd.C_drew ?_))); (case side2 => exact (Kd.R_reads' HO1106.out).2.1); rintro e w51 ⟨v1110, rfl, ho0, hb⟩; refine ⟨_, rfl, ?_⟩; have n0_ := Aside0.mk (Kd.S_elder' (by (with_reducible repeat (first | apply Kd.S_alloc | apply Kd.S_drewN | apply Kd.S_drew)); exact HO_3.out) (Kd.S_base ho0) hb); have n1_ := Aside0.mk (Kd.R_below (by (with_reducible repeat (first | apply Kd.R_alloc | apply Kd.R_drewN | apply Kd.R_drew)); exact HO_1091001.out) hb); have n2_ := Aside0.mk (Kd.S_elder' (by (with_reducible repeat (first | apply Kd.S_alloc | apply Kd.S_drewN | apply Kd.S_drew)); exact HO_1101002.out) (Kd.S_base ho0) hb); have n3_ := Aside0.mk (Kd.R_below (by (with_reducible repeat (first | apply Kd.R_alloc | apply Kd.R_drewN | apply Kd.R_drew)); exact HO1106.out) hb); have n4_ := Aside0.mk (Kd.S_lower (Kd.S_new' (Kd.S_new' (Kd.S_new' (Kd.S_new' ho0 (Kd.S_lt (by (with_reducible repeat (first | apply Kd.S_alloc | apply Kd.S_drewN | apply Kd.S_drew)); exact HO_3.out))) (Kd.R_lt (by (with_reducible repeat (first | apply Kd.R_alloc | apply Kd.R_drewN | apply Kd.R_drew)); exact HO_1091001.out))) (Kd.S_lt (by (with_reducible repeat (first | apply Kd.S_alloc | apply Kd.S_drewN | apply Kd.S_drew)); exact HO_1101002.out))) (Kd.R_lt (by (with_reducible repeat (first | apply Kd.R_alloc | apply Kd.R_drewN | apply Kd.R_drew)); exact HO1106.out))) (below_size (by repeat (first | (with_reducible first | exact HB.out | apply below_alloc | apply pw_below_drewN | apply below_drew1 | refine below_set ?_ GE1090.out | refine below_set ?_ GE1100.out) | exact HB.out)))); have n5_ := Aside0.mk (blk_below (g := gb1090) (o := .cells #[.int .i64 t1086, .slice Ao14 t1087.length co14] 24 (0, 0)) (by (with_reducible repeat (first | refine blk_drewN ?_ _ | refine blk_drew ?_ | refine blk_alloc ?_ _)); exact BK1090.out) hb); have n6_ := Aside0.mk (blk_below (g := gb1100) (o := .cells #[.int .i64 t1095, .int .i64 t1096, .slice Ao19 t1097.length co19] 50 (0, 0)) (by (with_reducible repeat (first | refine blk_drewN ?_ _ | refine blk_drew ?_ | refine blk_alloc ?_ _)); exact BK1100.out) hb); have n7_ := Aside0.mk (below_step (by repeat (first | (with_reducible first | exact HB.out | apply below_alloc | apply pw_below_drewN | apply below_drew1 | refine below_set ?_ GE1090.out | refine below_set ?_ GE1100.out) | exact HB.out)) hb); clear HO_3; clear HO_1091001; clear HO_1101002; clear HO1106; clear BK1090; clear BK1100; clear HB; have HO_3 := n0_; have HO_1091001 := n1_; have HO_1101002 := n2_; have HO1106 := n3_; have HO1111 := n4_; have BK1090 := n5_; have BK1100 := n6_; have HB := n7_; clear n0_ n1_ n2_ n3_ n4_ n5_ n6_ n7_; (try clear hb); (try clear hb2); (try clear hk); (try clear hi); (try clear ho0)) | ((with_reducible refine gate_dst (N := 8) rfl ?_); (try (refine gate_guard (by rfl) ?_; dsimp only)); refine box_event ?hg (N := 8) ?hd (cs := #[.int .i64 0, .int .i64 0, .slice none 0 0]) (t := 50) ?hr ?_; (case hd => rfl); (case hg => rfl); (case hr => first | (go_simp; done) | (go_simp; rfl)); intro gb1112 hg w52 hbox hb; have n0_ := Aside0.mk (Kd.S_below (by (with_reducible repeat (first | apply Kd.S_alloc | apply Kd.S_drewN | apply Kd.S_drew)); exact HO_3.out) hb); have n1_ := Aside0.mk (Kd.R_below (by (with_reducible repeat (first | apply Kd.R_alloc | apply Kd.R_drewN | apply Kd.R_drew)); exact HO_1091001.out) hb); have n2_ := Aside0.mk (Kd.S_below (by (with_reducible repeat (first | apply Kd.S_alloc | apply Kd.S_drewN | apply Kd.S_drew)); exact HO_1101002.out) hb); have n3_ := Aside0.mk (Kd.R_below (by (with_reducible repeat (first | apply Kd.R_alloc | apply Kd.R_drewN | apply Kd.R_drew)); exact HO1106.out) hb); have n4_ := Aside0.mk (Kd.S_below (by (with_reducible repeat (first | apply Kd.S_alloc | apply Kd.S_drewN | apply Kd.S_drew)); exact HO1111.out) hb); have n5_ := Aside0.mk (blk_below (g := gb1090) (o := .cells #[.int .i64 t1086, .slice Ao14 t1087.length co14] 24 (0, 0)) (by (with_reducible repeat (first | refine blk_drewN ?_ _ | refine blk_drew ?_ | refine blk_alloc ?_ _)); exact BK1090.out) hb); have n6_ := Aside0.mk (blk_below (g := gb1100) (o := .cells #[.int .i64 t1095, .int .i64 t1096, .slice Ao19 t1097.length co19] 50 (0, 0)) (by (with_reducible repeat (first | refine blk_drewN ?_ _ | refine blk_drew ?_ | refine blk_alloc ?_ _)); exact BK1100.out) hb); have n7_ := Aside0.mk (below_step (by repeat (first | (with_reducible first | exact HB.out | apply below_alloc | apply pw_below_drewN | apply below_drew1 | refine below_set ?_ GE1090.out | refine below_set ?_ GE1100.out) | exact HB.out)) hb); have n8_ := Aside0.mk (hbox); have n9_ := Aside0.mk ((by rw [hg]; exact (below_size (by repeat (first | (with_reducible first | exact HB.out | apply below_alloc | apply pw_below_drewN | apply below_drew1 | refine below_set ?_ GE1090.out | refine below_set ?_ GE1100.out) | exact HB.out))) : w.heap.size ≤ gb1112)); have n10_ := Aside0.mk ((by rw [hg]; exact (below_size (by repeat (first | (with_reducible first | exact HB.out | apply below_alloc | apply pw_below_drewN | apply below_drew1 | refine below_set ?_ GE1090.out | refine below_set ?_ GE1100.out) | exact HB.out))) : w.heap.size ≤ gb1112)); have n11_ := Aside0.mk ((by rw [hg]; exact Nat.ne_of_lt (blk_lt (g := gb1090) (o := .cells #[.int .i64 t1086, .slice Ao14 t1087.length co14] 24 (0, 0)) (by (with_reducible repeat (first | refine blk_drewN ?_ _ | refine blk_drew ?_ | refine blk_alloc ?_ _)); exact BK1090.out)) : gb1090 ≠ gb1112)); have n12_ := Aside0.mk ((by rw [hg]; exact Nat.ne_of_gt (blk_lt (g := gb1090) (o := .cells #[.int .i64 t1086, .slice Ao14 t1087.length co14] 24 (0, 0)) (by (with_reducible repeat (first | refine blk_drewN ?_ _ | refine blk_drew ?_ | refine blk_alloc ?_ _)); exact BK1090.out)) : gb1112 ≠ gb1090)); have n13_ := Aside0.mk ((by rw [hg]; exact Nat.ne_of_lt (blk_lt (g := gb1100) (o := .cells #[.int .i64 t1095, .int .i64 t1096, .slice Ao19 t1097.length co19] 50 (0, 0)) (by (with_reducible repeat (first | refine blk_drewN ?_ _ | refine blk_drew ?_ | refine blk_alloc ?_ _)); exact BK1100.out)) : gb1100 ≠ gb1112)); have n14_ := Aside0.mk ((by rw [hg]; exact Nat.ne_of_gt (blk_lt (g := gb1100) (o := .cells #[.int .i64 t1095, .int .i64 t1096, .slice Ao19 t1097.length co19] 50 (0, 0)) (by (with_reducible repeat (first | refine blk_drewN ?_ _ | refine blk_drew ?_ | refine blk_alloc ?_ _)); exact BK1100.out)) : gb1112 ≠ gb1100)); clear HO_3; clear HO_1091001; clear HO_1101002; clear HO1106; clear HO1111; clear BK1090; clear BK1100; clear HB; have HO_3 := n0_; have HO_1091001 := n1_; have HO_1101002 := n2_; have HO1106 := n3_; have HO1111 := n4_; have BK1090 := n5_; have BK1100 := n6_; have HB := n7_; have BK1112 := n8_; have GW1112 := n9_; have GE1112 := n10_; have NB1090_1112 := n11_; have NB1112_1090 := n12_; have NB1100_1112 := n13_; have NB1112_1100 := n14_; clear n0_ n1_ n2_ n3_ n4_ n5_ n6_ n7_ n8_ n9_ n10_ n11_ n12_ n13_ n14_; clear hb hbox hg; have hnb53 := NB1112_1090.out; have hnc53 := NB1090_1112.out; have hnb54 := NB1112_1100.out; have hnc54 := NB1100_1112.out; have hcz55_0 : w52.cell? ⟨gb1112, 0, none⟩ = some (.int .i64 0) := (blk_cell BK1112.out 0).trans (by first | rfl | (simp only [*] <;> rfl)); have hcz55_1 : w52.cell? ⟨gb1112, 1, none⟩ = some (.int .i64 0) := (blk_cell BK1112.out 1).trans (by first | rfl | (simp only [*] <;> rfl)); have hcz55_2 : w52.cell? ⟨gb1112, 2, none⟩ = some (.slice none 0 0) := (blk_cell BK1112.out 2).trans (by first | rfl | (simp only [*] <;> rfl)); have hfz55_0 := blk_frozen BK1112.out 0; have hfz55_1 := blk_frozen BK1112.out 1; have hfz55_2 := blk_frozen BK1112.out 2; obtain ⟨Ao56, co56, eo56⟩ := Kd.S_slice HO1111.out; subst eo56))
                      have n0_ : Aside0 (Kd.S (Kd.slice 5 (Kd.int .u8)) 22 (((w52.setCell ⟨gb1112, 0, none⟩ (.int .i64 t1107)).setCell ⟨gb1112, 1, none⟩ (.int .i64 t1108)).setCell ⟨gb1112, 2, none⟩ (.slice Ao56 t1109.length co56)) w.heap.size (fun k_ => some k_ ≠ (.slice Ao14 t1087.length co14 : Value).ownBlock ∧ some k_ ≠ (.slice Ao19 t1097.length co19 : Value).ownBlock ∧ some k_ ≠ (.slice Ao50 t1104.length co50 : Value).ownBlock ∧ some k_ ≠ (.slice Ao56 t1109.length co56 : Value).ownBlock) (.slice Ao10 t1083.length co10) t1083) := ⟨by (with_reducible repeat (first | apply Kd.S_alloc | apply Kd.S_drewN | apply Kd.S_drew)); exact Kd.S_mono (Kd.S_far (p := ⟨gb1112, 2, none⟩) (Kd.S_far (p := ⟨gb1112, 1, none⟩) (Kd.S_far (p := ⟨gb1112, 0, none⟩) (Kd.S_types HO_3.out BK1112.out (by decide)) (fun _ hk => hk.2) (.int .i64 t1107)) (fun _ hk => hk.2) (.int .i64 t1108)) (fun _ hk => hk.2) (.slice Ao56 t1109.length co56)) (fun _ hk => ⟨hk.1.1.1.1, ⟨hk.1.1.1.2, ⟨hk.1.1.2, hk.1.2⟩⟩⟩)⟩
                      have n1_ : Aside0 (Kd.R (Kd.int .u8) 5 (((w52.setCell ⟨gb1112, 0, none⟩ (.int .i64 t1107)).setCell ⟨gb1112, 1, none⟩ (.int .i64 t1108)).setCell ⟨gb1112, 2, none⟩ (.slice Ao56 t1109.length co56)) w.heap.size (fun k_ => some k_ ≠ (.slice Ao50 t1104.length co50 : Value).ownBlock) (.slice Ao14 t1087.length co14) t1087) := ⟨by (with_reducible repeat (first | apply Kd.R_alloc | apply Kd.R_drewN | apply Kd.R_drew)); exact Kd.R_mono (Kd.R_far (p := ⟨gb1112, 2, none⟩) (Kd.R_far (p := ⟨gb1112, 1, none⟩) (Kd.R_far (p := ⟨gb1112, 0, none⟩) (Kd.R_types HO_1091001.out BK1112.out (by decide)) (fun _ hk => hk.2) (.int .i64 t1107)) (fun _ hk => hk.2) (.int .i64 t1108)) (fun _ hk => hk.2) (.slice Ao56 t1109.length co56)) (fun _ hk => hk.1.2)⟩
                      have n2_ : Aside0 (Kd.S (Kd.slice 5 (Kd.int .u8)) 22 (((w52.setCell ⟨gb1112, 0, none⟩ (.int .i64 t1107)).setCell ⟨gb1112, 1, none⟩ (.int .i64 t1108)).setCell ⟨gb1112, 2, none⟩ (.slice Ao56 t1109.length co56)) w.heap.size (fun k_ => some k_ ≠ (.slice Ao10 t1083.length co10 : Value).ownBlock ∧ some k_ ≠ (.slice Ao14 t1087.length co14 : Value).ownBlock ∧ some k_ ≠ (.slice Ao50 t1104.length co50 : Value).ownBlock ∧ some k_ ≠ (.slice Ao56 t1109.length co56 : Value).ownBlock) (.slice Ao19 t1097.length co19) t1097) := ⟨by (with_reducible repeat (first | apply Kd.S_alloc | apply Kd.S_drewN | apply Kd.S_drew)); exact Kd.S_mono (Kd.S_far (p := ⟨gb1112, 2, none⟩) (Kd.S_far (p := ⟨gb1112, 1, none⟩) (Kd.S_far (p := ⟨gb1112, 0, none⟩) (Kd.S_types HO_1101002.out BK1112.out (by decide)) (fun _ hk => hk.2) (.int .i64 t1107)) (fun _ hk => hk.2) (.int .i64 t1108)) (fun _ hk => hk.2) (.slice Ao56 t1109.length co56)) (fun _ hk => ⟨hk.1.1.1.1, ⟨hk.1.1.1.2, ⟨hk.1.1.2, hk.1.2⟩⟩⟩)⟩
                      have n3_ : Aside0 (Kd.R (Kd.int .u8) 5 (((w52.setCell ⟨gb1112, 0, none⟩ (.int .i64 t1107)).setCell ⟨gb1112, 1, none⟩ (.int .i64 t1108)).setCell ⟨gb1112, 2, none⟩ (.slice Ao56 t1109.length co56)) w.heap.size (fun k_ => some k_ ≠ (.slice Ao14 t1087.length co14 : Value).ownBlock) (.slice Ao50 t1104.length co50) t1104) := ⟨by (with_reducible repeat (first | apply Kd.R_alloc | apply Kd.R_drewN | apply Kd.R_drew)); exact Kd.R_mono (Kd.R_far (p := ⟨gb1112, 2, none⟩) (Kd.R_far (p := ⟨gb1112, 1, none⟩) (Kd.R_far (p := ⟨gb1112, 0, none⟩) (Kd.R_types HO1106.out BK1112.out (by decide)) (fun _ hk => hk.2) (.int .i64 t1107)) (fun _ hk => hk.2) (.int .i64 t1108)) (fun _ hk => hk.2) (.slice Ao56 t1109.length co56)) (fun _ hk => hk.1.2)⟩
                      have n4_ : Aside0 (Kd.S (Kd.slice 5 (Kd.int .u8)) 22 (((w52.setCell ⟨gb1112, 0, none⟩ (.int .i64 t1107)).setCell ⟨gb1112, 1, none⟩ (.int .i64 t1108)).setCell ⟨gb1112, 2, none⟩ (.slice Ao56 t1109.length co56)) w.heap.size (fun k_ => some k_ ≠ (.slice Ao10 t1083.length co10 : Value).ownBlock ∧ some k_ ≠ (.slice Ao14 t1087.length co14 : Value).ownBlock ∧ some k_ ≠ (.slice Ao19 t1097.length co19 : Value).ownBlock ∧ some k_ ≠ (.slice Ao50 t1104.length co50 : Value).ownBlock) (.slice Ao56 t1109.length co56) t1109) := ⟨by (with_reducible repeat (first | apply Kd.S_alloc | apply Kd.S_drewN | apply Kd.S_drew)); exact Kd.S_mono (Kd.S_far (p := ⟨gb1112, 2, none⟩) (Kd.S_far (p := ⟨gb1112, 1, none⟩) (Kd.S_far (p := ⟨gb1112, 0, none⟩) (Kd.S_types HO1111.out BK1112.out (by decide)) (fun _ hk => hk.2) (.int .i64 t1107)) (fun _ hk => hk.2) (.int .i64 t1108)) (fun _ hk => hk.2) (.slice Ao56 t1109.length co56)) (fun _ hk => ⟨hk.1.1.1.1.2, ⟨hk.1.1.1.2, ⟨hk.1.1.2, hk.1.2⟩⟩⟩)⟩
                      have n5_ : Aside0 ((((w52.setCell ⟨gb1112, 0, none⟩ (.int .i64 t1107)).setCell ⟨gb1112, 1, none⟩ (.int .i64 t1108)).setCell ⟨gb1112, 2, none⟩ (.slice Ao56 t1109.length co56)).heap[gb1090]? = some (.cells #[.int .i64 t1086, .slice Ao14 t1087.length co14] 24 (0, 0))) := ⟨by (with_reducible repeat (first | refine blk_drewN ?_ _ | refine blk_drew ?_ | refine blk_alloc ?_ _)); refine blk_far ?_ NB1090_1112.out _; (with_reducible repeat (first | refine blk_drewN ?_ _ | refine blk_drew ?_ | refine blk_alloc ?_ _)); refine blk_far ?_ NB1090_1112.out _; (with_reducible repeat (first | refine blk_drewN ?_ _ | refine blk_drew ?_ | refine blk_alloc ?_ _)); refine blk_far ?_ NB1090_1112.out _; (with_reducible repeat (first | refine blk_drewN ?_ _ | refine blk_drew ?_ | refine blk_alloc ?_ _)); exact BK1090.out⟩
                      have n6_ : Aside0 ((((w52.setCell ⟨gb1112, 0, none⟩ (.int .i64 t1107)).setCell ⟨gb1112, 1, none⟩ (.int .i64 t1108)).setCell ⟨gb1112, 2, none⟩ (.slice Ao56 t1109.length co56)).heap[gb1100]? = some (.cells #[.int .i64 t1095, .int .i64 t1096, .slice Ao19 t1097.length co19] 50 (0, 0))) := ⟨by (with_reducible repeat (first | refine blk_drewN ?_ _ | refine blk_drew ?_ | refine blk_alloc ?_ _)); refine blk_far ?_ NB1100_1112.out _; (with_reducible repeat (first | refine blk_drewN ?_ _ | refine blk_drew ?_ | refine blk_alloc ?_ _)); refine blk_far ?_ NB1100_1112.out _; (with_reducible repeat (first | refine blk_drewN ?_ _ | refine blk_drew ?_ | refine blk_alloc ?_ _)); refine blk_far ?_ NB1100_1112.out _; (with_reducible repeat (first | refine blk_drewN ?_ _ | refine blk_drew ?_ | refine blk_alloc ?_ _)); exact BK1100.out⟩
                      have n7_ : Aside0 ((((w52.setCell ⟨gb1112, 0, none⟩ (.int .i64 t1107)).setCell ⟨gb1112, 1, none⟩ (.int .i64 t1108)).setCell ⟨gb1112, 2, none⟩ (.slice Ao56 t1109.length co56)).heap[gb1112]? = some (.cells #[.int .i64 t1107, .int .i64 t1108, .slice Ao56 t1109.length co56] 50 (0, 0))) := ⟨by (with_reducible repeat (first | refine blk_drewN ?_ _ | refine blk_drew ?_ | refine blk_alloc ?_ _)); refine blk_put (cs := #[.int .i64 t1107, .int .i64 t1108, .slice none 0 0]) ?_ 2 _ rfl; (with_reducible repeat (first | refine blk_drewN ?_ _ | refine blk_drew ?_ | refine blk_alloc ?_ _)); refine blk_put (cs := #[.int .i64 t1107, .int .i64 0, .slice none 0 0]) ?_ 1 _ rfl; (with_reducible repeat (first | refine blk_drewN ?_ _ | refine blk_drew ?_ | refine blk_alloc ?_ _)); refine blk_put (cs := #[.int .i64 0, .int .i64 0, .slice none 0 0]) ?_ 0 _ rfl; (with_reducible repeat (first | refine blk_drewN ?_ _ | refine blk_drew ?_ | refine blk_alloc ?_ _)); exact BK1112.out⟩
                      have n8_ : Aside0 (Below w.heap.size w (((w52.setCell ⟨gb1112, 0, none⟩ (.int .i64 t1107)).setCell ⟨gb1112, 1, none⟩ (.int .i64 t1108)).setCell ⟨gb1112, 2, none⟩ (.slice Ao56 t1109.length co56))) := ⟨by repeat (first | (with_reducible first | exact HB.out | apply below_alloc | apply pw_below_drewN | apply below_drew1 | refine below_set ?_ GE1090.out | refine below_set ?_ GE1100.out | refine below_set ?_ GE1112.out) | exact HB.out)⟩
                      (try clear HO_3)
                      (try clear HO_1091001)
                      (try clear HO_1101002)
                      (try clear HO1106)
                      (try clear HO1111)
                      (try clear BK1090)
                      (try clear BK1100)
                      (try clear BK1112)
                      (try clear HB)
                      generalize (((w52.setCell ⟨gb1112, 0, none⟩ (.int .i64 t1107)).setCell ⟨gb1112, 1, none⟩ (.int .i64 t1108)).setCell ⟨gb1112, 2, none⟩ (.slice Ao56 t1109.length co56)) = w57 at n0_ n1_ n2_ n3_ n4_ n5_ n6_ n7_ n8_ ⊢
                      have HO_3 := n0_
                      have HO_1091001 := n1_
                      have HO_1101002 := n2_
                      have HO1106 := n3_
                      have HO1111 := n4_
                      have BK1090 := n5_
                      have BK1100 := n6_
                      have BK1112 := n7_
                      have HB := n8_
                      clear n0_ n1_ n2_ n3_ n4_ n5_ n6_ n7_ n8_
                      have n0_ := Aside0.mk (Kd.S_drew HO_3.out)
                      have n1_ := Aside0.mk (Kd.R_drew HO_1091001.out)
                      have n2_ := Aside0.mk (Kd.S_drew HO_1101002.out)
                      have n3_ := Aside0.mk (Kd.R_drew HO1106.out)
                      have n4_ := Aside0.mk (Kd.S_drew HO1111.out)
                      have n5_ := Aside0.mk (blk_drew BK1090.out)
                      have n6_ := Aside0.mk (blk_drew BK1100.out)
                      have n7_ := Aside0.mk (blk_drew BK1112.out)
                      have n8_ := Aside0.mk (below_drew1 HB.out)
                      clear HO_3
                      clear HO_1091001
                      clear HO_1101002
                      clear HO1106
                      clear HO1111
                      clear BK1090
                      clear BK1100
                      clear BK1112
                      clear HB
                      have HO_3 := n0_
                      have HO_1091001 := n1_
                      have HO_1101002 := n2_
                      have HO1106 := n3_
                      have HO1111 := n4_
                      have BK1090 := n5_
                      have BK1100 := n6_
                      have BK1112 := n7_
                      have HB := n8_
                      clear n0_ n1_ n2_ n3_ n4_ n5_ n6_ n7_ n8_
                      refine start_ (n := 14) (S := fun w' => w'.cell? ⟨gb1112, 0, none⟩ = some (.int .i64 t1107) ∧ w'.cell? ⟨gb1112, 1, none⟩ = some (.int .i64 t1108) ∧ w'.cell? ⟨gb1112, 2, none⟩ = some (.slice Ao56 t1109.length co56)) (ds := []) #[false, false, false, false, false, false, false, false, false, false, false, false, false, false] (by kernel_rfl) rfl rfl ⟨(blk_cell BK1112.out 0).trans (by first | rfl | (simp only [*] <;> rfl)), (blk_cell BK1112.out 1).trans (by first | rfl | (simp only [*] <;> rfl)), (blk_cell BK1112.out 2).trans (by first | rfl | (simp only [*] <;> rfl))⟩ (fun hHeld => ?_); refine with_tabW laws_FnWords.tab18 laws_FnWords.bits18 (fun HT_ HW_ => ?_)
                      generalize w57.drew = w58 at HO_3 HO_1091001 HO_1101002 HO1106 HO1111 BK1090 BK1100 BK1112 HB hHeld ⊢
                      refine pure_ (i := 0) (N := some 62) (v := ?_) (a' := ?_) #[true, false, false, false, false, false, false, false, false, false, false, false, false, false] rfl rfl (any_of HT_.out (by kernel_rfl)) (fun _ _ _ h => h) (Or.inl ⟨by rfl, ?_⟩) ?_ ?_
                      rotate_left
                      · intro w'
                        go_simp
                        with_reducible rfl
                      rotate_left
                      · simp only [Act.put, List.setIfInBounds_toArray, List.set_cons_zero, List.set_cons_succ, i64_w, i32_w]
                        rfl
                      refine pure_ (i := 3) (N := some 65) (v := ?_) (a' := ?_) #[true, false, false, true, false, false, false, false, false, false, false, false, false, false] rfl rfl (any_of HT_.out (by kernel_rfl)) (fun _ _ _ h => h) (Or.inl ⟨by rfl, ?_⟩) ?_ ?_
                      rotate_left
                      · intro w'
                        go_simp
                        with_reducible rfl
                      rotate_left
                      · simp only [Act.put, List.setIfInBounds_toArray, List.set_cons_zero, List.set_cons_succ, i64_w, i32_w]
                        rfl
                      refine take_ (i := 4) (N := some 66) (v := ?_) (a' := ?_) #[true, false, false, true, true, false, false, false, false, false, false, false, false, false] rfl rfl (take_ofW HT_.out HW_.out (by kernel_rfl)) (fun _ _ _ h => h) (Or.inl ⟨by rfl, ?_⟩) hHeld ?_ ?_
                      rotate_left
                      · rintro w' ⟨s0, s1, s2⟩
                        go_simp
                        with_reducible rfl
                      rotate_left
                      · simp only [Act.put, List.setIfInBounds_toArray, List.set_cons_zero, List.set_cons_succ, i64_w, i32_w]
                        rfl
                      refine one_ (i := 1) (N := some 63) #[true, true, false, true, true, false, false, false, false, false, false, false, false, false] rfl rfl (one_of HT_.out (by kernel_rfl)) (by decide) (fun K hK => ?_)
                      refine goes_ Try.func36 (by kernel_rfl) rfl #[.slice Ao50 t1104.length co50] (by rfl) rfl rfl (by (try simp only [List.map_toArray, List.map_cons, List.map_nil]); first | done | rfl | (simp only [List.length_drop, List.length_take]; rfl)) ?_
                      with_reducible refine (spec_UnpackWords.calls k2 _ _ t1104 t1118 t1119 t1120 _ ?side1 ?side2 A47.out).mono ?_
                      (case side1 => repeat (first | exact (Kd.R_reads' HO1106.out).2.2 | (with_reducible refine Kd.C_alloc ?_ _) | (with_reducible refine Kd.C_drewN ?_ _) | (with_reducible refine Kd.C_drew ?_)))
                      (case side2 => exact (Kd.R_reads' HO1106.out).2.1)
                      rintro e w59 ⟨v1121, rfl, ho0, hb⟩
                      refine ⟨_, rfl, ?_⟩
                      have n0_ := Aside0.mk (Kd.S_elder' (by (with_reducible repeat (first | apply Kd.S_alloc | apply Kd.S_drewN | apply Kd.S_drew)); exact HO_3.out) (Kd.S_base ho0) hb)
                      have n1_ := Aside0.mk (Kd.R_below (by (with_reducible repeat (first | apply Kd.R_alloc | apply Kd.R_drewN | apply Kd.R_drew)); exact HO_1091001.out) hb)
                      have n2_ := Aside0.mk (Kd.S_elder' (by (with_reducible repeat (first | apply Kd.S_alloc | apply Kd.S_drewN | apply Kd.S_drew)); exact HO_1101002.out) (Kd.S_base ho0) hb)
                      have n3_ := Aside0.mk (Kd.R_below (by (with_reducible repeat (first | apply Kd.R_alloc | apply Kd.R_drewN | apply Kd.R_drew)); exact HO1106.out) hb)
                      have n4_ := Aside0.mk (Kd.S_elder' (by (with_reducible repeat (first | apply Kd.S_alloc | apply Kd.S_drewN | apply Kd.S_drew)); exact HO1111.out) (Kd.S_base ho0) hb)
                      have n5_ := Aside0.mk (Kd.S_lower (Kd.S_new' (Kd.S_new' (Kd.S_new' (Kd.S_new' (Kd.S_new' ho0 (Kd.S_lt (by (with_reducible repeat (first | apply Kd.S_alloc | apply Kd.S_drewN | apply Kd.S_drew)); exact HO_3.out))) (Kd.R_lt (by (with_reducible repeat (first | apply Kd.R_alloc | apply Kd.R_drewN | apply Kd.R_drew)); exact HO_1091001.out))) (Kd.S_lt (by (with_reducible repeat (first | apply Kd.S_alloc | apply Kd.S_drewN | apply Kd.S_drew)); exact HO_1101002.out))) (Kd.R_lt (by (with_reducible repeat (first | apply Kd.R_alloc | apply Kd.R_drewN | apply Kd.R_drew)); exact HO1106.out))) (Kd.S_lt (by (with_reducible repeat (first | apply Kd.S_alloc | apply Kd.S_drewN | apply Kd.S_drew)); exact HO1111.out))) (below_size (by repeat (first | (with_reducible first | exact HB.out | apply below_alloc | apply pw_below_drewN | apply below_drew1 | refine below_set ?_ GE1090.out | refine below_set ?_ GE1100.out | refine below_set ?_ GE1112.out) | exact HB.out))))
                      have n6_ := Aside0.mk (blk_below (g := gb1090) (o := .cells #[.int .i64 t1086, .slice Ao14 t1087.length co14] 24 (0, 0)) (by (with_reducible repeat (first | refine blk_drewN ?_ _ | refine blk_drew ?_ | refine blk_alloc ?_ _)); exact BK1090.out) hb)
                      have n7_ := Aside0.mk (blk_below (g := gb1100) (o := .cells #[.int .i64 t1095, .int .i64 t1096, .slice Ao19 t1097.length co19] 50 (0, 0)) (by (with_reducible repeat (first | refine blk_drewN ?_ _ | refine blk_drew ?_ | refine blk_alloc ?_ _)); exact BK1100.out) hb)
                      have n8_ := Aside0.mk (blk_below (g := gb1112) (o := .cells #[.int .i64 t1107, .int .i64 t1108, .slice Ao56 t1109.length co56] 50 (0, 0)) (by (with_reducible repeat (first | refine blk_drewN ?_ _ | refine blk_drew ?_ | refine blk_alloc ?_ _)); exact BK1112.out) hb)
                      have n9_ := Aside0.mk (below_step (by repeat (first | (with_reducible first | exact HB.out | apply below_alloc | apply pw_below_drewN | apply below_drew1 | refine below_set ?_ GE1090.out | refine below_set ?_ GE1100.out | refine below_set ?_ GE1112.out) | exact HB.out)) hb)
                      clear HO_3
                      clear HO_1091001
                      clear HO_1101002
                      clear HO1106
                      clear HO1111
                      clear BK1090
                      clear BK1100
                      clear BK1112
                      clear HB
                      have HO_3 := n0_
                      have HO_1091001 := n1_
                      have HO_1101002 := n2_
                      have HO1106 := n3_
                      have HO1111 := n4_
                      have HO1122 := n5_
                      have BK1090 := n6_
                      have BK1100 := n7_
                      have BK1112 := n8_
                      have HB := n9_
                      clear n0_ n1_ n2_ n3_ n4_ n5_ n6_ n7_ n8_ n9_
                      (try clear hb)
                      (try clear hb2)
                      (try clear hk)
                      (try clear hi)
                      (try clear ho0)
                      refine hK.out _ _ ⟨(blk_cell BK1112.out 0).trans (by first | rfl | (simp only [*] <;> rfl)), (blk_cell BK1112.out 1).trans (by first | rfl | (simp only [*] <;> rfl)), (blk_cell BK1112.out 2).trans (by first | rfl | (simp only [*] <;> rfl))⟩ (fun hHeld => ?_)
                      clear hK K
                      refine norm_ (a' := ?_) ?_ ?_
                      rotate_left
                      · show Act.put _ (some 63) _ = _
                        simp only [Act.put, List.setIfInBounds_toArray, List.set_cons_zero, List.set_cons_succ, i64_w, i32_w]
                        rfl
                      refine pure_ (i := 2) (N := some 64) (v := ?_) (a' := ?_) #[true, true, true, true, true, false, false, false, false, false, false, false, false, false] rfl rfl (any_of HT_.out (by kernel_rfl)) (fun _ _ _ h => h) (Or.inl ⟨by rfl, ?_⟩) ?_ ?_
                      rotate_left
                      · intro w'
                        go_simp
                        with_reducible rfl
                      rotate_left
                      · simp only [Act.put, List.setIfInBounds_toArray, List.set_cons_zero, List.set_cons_succ, i64_w, i32_w]
                        rfl
                      refine pure_ (i := 5) (N := some 67) (v := ?_) (a' := ?_) #[true, true, true, true, true, true, false, false, false, false, false, false, false, false] rfl rfl (any_of HT_.out (by kernel_rfl)) (fun _ _ _ h => h) (Or.inl ⟨by rfl, ?_⟩) ?_ ?_
                      rotate_left
                      · intro w'
                        go_simp
                        with_reducible rfl
                      rotate_left
                      · simp only [Act.put, List.setIfInBounds_toArray, List.set_cons_zero, List.set_cons_succ, i64_w, i32_w]
                        rfl
                      refine pure_ (i := 6) (N := some 68) (v := ?_) (a' := ?_) #[true, true, true, true, true, true, true, false, false, false, false, false, false, false] rfl rfl (any_of HT_.out (by kernel_rfl)) (fun _ _ _ h => h) (Or.inl ⟨by rfl, ?_⟩) ?_ ?_
                      rotate_left
                      · intro w'
                        go_simp
                        with_reducible rfl
                      rotate_left
                      · simp only [Act.put, List.setIfInBounds_toArray, List.set_cons_zero, List.set_cons_succ, i64_w, i32_w]
                        rfl
                      refine pure_ (i := 7) (N := some 69) (v := ?_) (a' := ?_) #[true, true, true, true, true, true, true, true, false, false, false, false, false, false] rfl rfl (any_of HT_.out (by kernel_rfl)) (fun _ _ _ h => h) (Or.inl ⟨by rfl, ?_⟩) ?_ ?_
                      rotate_left
                      · intro w'
                        go_simp
                        with_reducible rfl
                      rotate_left
                      · simp only [Act.put, List.setIfInBounds_toArray, List.set_cons_zero, List.set_cons_succ, i64_w, i32_w]
                        rfl
                      refine pure_ (i := 9) (N := some 71) (v := ?_) (a' := ?_) #[true, true, true, true, true, true, true, true, false, true, false, false, false, false] rfl rfl (any_of HT_.out (by kernel_rfl)) (fun _ _ _ h => h) (Or.inl ⟨by rfl, ?_⟩) ?_ ?_
                      rotate_left
                      · intro w'
                        go_simp
                        with_reducible rfl
                      rotate_left
                      · simp only [Act.put, List.setIfInBounds_toArray, List.set_cons_zero, List.set_cons_succ, i64_w, i32_w]
                        rfl
                      refine pure_ (i := 10) (N := some 72) (v := ?_) (a' := ?_) #[true, true, true, true, true, true, true, true, false, true, true, false, false, false] rfl rfl (any_of HT_.out (by kernel_rfl)) (fun _ _ _ h => h) (Or.inl ⟨by rfl, ?_⟩) ?_ ?_
                      rotate_left
                      · intro w'
                        go_simp
                        with_reducible rfl
                      rotate_left
                      · simp only [Act.put, List.setIfInBounds_toArray, List.set_cons_zero, List.set_cons_succ, i64_w, i32_w]
                        rfl
                      refine take_ (i := 8) (N := some 70) (v := ?_) (a' := ?_) #[true, true, true, true, true, true, true, true, true, true, true, false, false, false] rfl rfl (take_ofW HT_.out HW_.out (by kernel_rfl)) (fun _ _ _ h => h) (Or.inl ⟨by rfl, ?_⟩) hHeld ?_ ?_
                      rotate_left
                      · rintro w' ⟨s0, s1, s2⟩
                        go_simp
                        with_reducible rfl
                      rotate_left
                      · simp only [Act.put, List.setIfInBounds_toArray, List.set_cons_zero, List.set_cons_succ, i64_w, i32_w]
                        rfl
                      refine pure_ (i := 11) (N := some 73) (v := ?_) (a' := ?_) #[true, true, true, true, true, true, true, true, true, true, true, true, false, false] rfl rfl (any_of HT_.out (by kernel_rfl)) (fun _ _ _ h => h) (Or.inl ⟨by rfl, ?_⟩) ?_ ?_
                      rotate_left
                      · intro w'
                        go_simp
                        with_reducible rfl
                      rotate_left
                      · simp only [Act.put, List.setIfInBounds_toArray, List.set_cons_zero, List.set_cons_succ, i64_w, i32_w]
                        rfl
                      refine pure_ (i := 12) (N := some 74) (v := ?_) (a' := ?_) #[true, true, true, true, true, true, true, true, true, true, true, true, true, false] rfl rfl (any_of HT_.out (by kernel_rfl)) (fun _ _ _ h => h) (Or.inl ⟨by rfl, ?_⟩) ?_ ?_
                      rotate_left
                      · intro w'
                        go_simp
                        with_reducible rfl
                      rotate_left
                      · simp only [Act.put, List.setIfInBounds_toArray, List.set_cons_zero, List.set_cons_succ, i64_w, i32_w]
                        rfl
                      refine pure_ (i := 13) (N := some 2) (v := ?_) (a' := ?_) #[true, true, true, true, true, true, true, true, true, true, true, true, true, true] rfl rfl (any_of HT_.out (by kernel_rfl)) (fun _ _ _ h => h) (Or.inl ⟨by rfl, ?_⟩) ?_ ?_
                      rotate_left
                      · intro w'
                        go_simp
                        with_reducible rfl
                      rotate_left
                      · simp only [Act.put, List.setIfInBounds_toArray, List.set_cons_zero, List.set_cons_succ, i64_w, i32_w]
                        rfl
                      refine done_ (done_of HT_.out (by kernel_rfl)) ?_
                      try go_wp2
                      go_ret
                      exact ⟨by first | rfl | (simp [errW_none, errW_some] <;> rfl) | (simp [*, errW_none, errW_some] <;> rfl), by repeat (first | (with_reducible first | exact HB.out | apply below_alloc | apply pw_below_drewN | apply below_drew1 | refine below_set ?_ GE1090.out | refine below_set ?_ GE1100.out | refine below_set ?_ GE1112.out) | exact HB.out)⟩
                    · rw [if_neg c48] at H
                      have c48b0 : (t1118 == t1107) = false := beq_eq_false_iff_ne.mpr c48
                      have c48b1 : (t1118 != t1107) = true := bne_iff_ne.mpr c48
                      exact absurd H (by simp)
    · rw [if_neg c6] at H
      have c6b0 : (t1086 == 0) = false := beq_eq_false_iff_ne.mpr c6
      have c6b1 : (t1086 != 0) = true := bne_iff_ne.mpr c6
      replace H := Option.bind_eq_some_iff.mp H
      obtain ⟨⟨t1091, t1092⟩, A600, H⟩ := H
      replace H : (some (t1091 == t1086)) = some r := H
      have A60 := Aside0.mk A600
      clear A600
      obtain rfl := Option.some.inj H
      have hfd24_0 := fun (a0 a1 : Value) (w : World) => (show (Instr.field 24 (.agg #[a0, a1]) 0).run Try.prog w = .ok a0 w from by kernel_rfl)
      have hfd24_1 := fun (a0 a1 : Value) (w : World) => (show (Instr.field 24 (.agg #[a0, a1]) 1).run Try.prog w = .ok a1 w from by kernel_rfl)
      have hfd50_0 := fun (a0 a1 a2 : Value) (w : World) => (show (Instr.field 50 (.agg #[a0, a1, a2]) 0).run Try.prog w = .ok a0 w from by kernel_rfl)
      have hfd50_1 := fun (a0 a1 a2 : Value) (w : World) => (show (Instr.field 50 (.agg #[a0, a1, a2]) 1).run Try.prog w = .ok a1 w from by kernel_rfl)
      have hfd50_2 := fun (a0 a1 a2 : Value) (w : World) => (show (Instr.field 50 (.agg #[a0, a1, a2]) 2).run Try.prog w = .ok a2 w from by kernel_rfl)
      go_enter Try.func8, Try.ntmps8
      try go_wp2_with (first | ((with_reducible refine gate_callee (f := 26) rfl ?_); refine goesL_ (some 10) rfl rfl Try.func26 (by kernel_rfl) rfl #[.slice A0 l0.length c0] rfl (by (try simp only [List.map_toArray, List.map_cons, List.map_nil]); first | done | rfl | (simp only [List.length_drop, List.length_take]; rfl)) ?_; (with_reducible refine (laws_lwBig.calls _ _ l0 false _ ?side1 ?side2 A2.out).mono ?_); (case side1 => repeat (first | exact HR0.out | (with_reducible refine Kd.C_alloc ?_ _) | (with_reducible refine Kd.C_drewN ?_ _) | (with_reducible refine Kd.C_drew ?_))); (case side2 => exact HC0.out); rintro e w' ⟨rfl, ⟨nd, rfl⟩⟩; refine ⟨_, rfl, ?_⟩) | ((with_reducible refine gate_callee (f := 50) rfl ?_); refine goesL_ (some 12) rfl rfl Try.func50 (by kernel_rfl) rfl #[.slice A0 l0.length c0] rfl (by (try simp only [List.map_toArray, List.map_cons, List.map_nil]); first | done | rfl | (simp only [List.length_drop, List.length_take]; rfl)) ?_; (with_reducible refine (spec_DrawPackWords.calls k _ _ l0 t1083 _ ?side1 ?side2 A4.out).mono ?_); (case side1 => repeat (first | exact HR0.out | (with_reducible refine Kd.C_alloc ?_ _) | (with_reducible refine Kd.C_drewN ?_ _) | (with_reducible refine Kd.C_drew ?_))); (case side2 => exact HC0.out); rintro e w61 ⟨v1084, rfl, ho0, hb⟩; refine ⟨_, rfl, ?_⟩; have n0_ := Aside0.mk (Kd.S_lower ho0 (below_size (by repeat (first | (with_reducible first | exact HB.out | apply below_alloc | apply pw_below_drewN | apply below_drew1) | exact HB.out)))); have n1_ := Aside0.mk (below_step (by repeat (first | (with_reducible first | exact HB.out | apply below_alloc | apply pw_below_drewN | apply below_drew1) | exact HB.out)) hb); clear HB; have HO1085 := n0_; have HB := n1_; clear n0_ n1_; (try clear hb); (try clear hb2); (try clear hk); (try clear hi); (try clear ho0); obtain ⟨Ao62, co62, eo62⟩ := Kd.S_slice HO1085.out; subst eo62) | ((with_reducible refine gate_callee (f := 47) rfl ?_); refine goesL_ (some 14) rfl rfl Try.func47 (by kernel_rfl) rfl #[.slice Ao62 t1083.length co62] rfl (by (try simp only [List.map_toArray, List.map_cons, List.map_nil]); first | done | rfl | (simp only [List.length_drop, List.length_take]; rfl)) ?_; (with_reducible refine (impl_PackWords.calls k _ _ t1083 t1086 t1087 _ ?side1 ?side2 A5.out).mono ?_); (case side1 => repeat (first | exact (Kd.S_reads' HO1085.out).2.2 | (with_reducible refine Kd.C_alloc ?_ _) | (with_reducible refine Kd.C_drewN ?_ _) | (with_reducible refine Kd.C_drew ?_))); (case side2 => exact (Kd.S_reads' HO1085.out).2.1); rintro e w63 ⟨v1088, rfl, ho0, hb⟩; refine ⟨_, rfl, ?_⟩; have n0_ := Aside0.mk (Kd.S_elder' (by (with_reducible repeat (first | apply Kd.S_alloc | apply Kd.S_drewN | apply Kd.S_drew)); exact HO1085.out) (Kd.R_base ho0) hb); have n1_ := Aside0.mk (Kd.R_lower ho0 (below_size (by repeat (first | (with_reducible first | exact HB.out | apply below_alloc | apply pw_below_drewN | apply below_drew1) | exact HB.out)))); have n2_ := Aside0.mk (below_step (by repeat (first | (with_reducible first | exact HB.out | apply below_alloc | apply pw_below_drewN | apply below_drew1) | exact HB.out)) hb); clear HO1085; clear HB; have HO1085 := n0_; have HO1089 := n1_; have HB := n2_; clear n0_ n1_ n2_; (try clear hb); (try clear hb2); (try clear hk); (try clear hi); (try clear ho0)) | ((with_reducible refine gate_dst (N := 4) rfl ?_); (try (refine gate_guard (by rfl) ?_; dsimp only)); refine box_event ?hg (N := 4) ?hd (cs := #[.int .i64 0, .slice none 0 0]) (t := 24) ?hr ?_; (case hd => rfl); (case hg => rfl); (case hr => first | (go_simp; done) | (go_simp; rfl)); intro gb1090 hg w64 hbox hb; have n0_ := Aside0.mk (Kd.S_below (by (with_reducible repeat (first | apply Kd.S_alloc | apply Kd.S_drewN | apply Kd.S_drew)); exact HO1085.out) hb); have n1_ := Aside0.mk (Kd.R_below (by (with_reducible repeat (first | apply Kd.R_alloc | apply Kd.R_drewN | apply Kd.R_drew)); exact HO1089.out) hb); have n2_ := Aside0.mk (below_step (by repeat (first | (with_reducible first | exact HB.out | apply below_alloc | apply pw_below_drewN | apply below_drew1) | exact HB.out)) hb); have n3_ := Aside0.mk (hbox); have n4_ := Aside0.mk ((by rw [hg]; exact (below_size (by repeat (first | (with_reducible first | exact HB.out | apply below_alloc | apply pw_below_drewN | apply below_drew1) | exact HB.out))) : w.heap.size ≤ gb1090)); have n5_ := Aside0.mk ((by rw [hg]; exact (below_size (by repeat (first | (with_reducible first | exact HB.out | apply below_alloc | apply pw_below_drewN | apply below_drew1) | exact HB.out))) : w.heap.size ≤ gb1090)); clear HO1085; clear HO1089; clear HB; have HO1085 := n0_; have HO1089 := n1_; have HB := n2_; have BK1090 := n3_; have GW1090 := n4_; have GE1090 := n5_; clear n0_ n1_ n2_ n3_ n4_ n5_; clear hb hbox hg; have hcz65_0 : w64.cell? ⟨gb1090, 0, none⟩ = some (.int .i64 0) := (blk_cell BK1090.out 0).trans (by first | rfl | (simp only [*] <;> rfl)); have hcz65_1 : w64.cell? ⟨gb1090, 1, none⟩ = some (.slice none 0 0) := (blk_cell BK1090.out 1).trans (by first | rfl | (simp only [*] <;> rfl)); have hfz65_0 := blk_frozen BK1090.out 0; have hfz65_1 := blk_frozen BK1090.out 1; obtain ⟨Ao66, co66, eo66⟩ := Kd.R_slice HO1089.out; subst eo66))
      have n0_ : Aside0 (Kd.S (Kd.slice 5 (Kd.int .u8)) 22 ((w64.setCell ⟨gb1090, 0, none⟩ (.int .i64 t1086)).setCell ⟨gb1090, 1, none⟩ (.slice Ao66 t1087.length co66)) w.heap.size (fun k_ => some k_ ≠ (.slice Ao66 t1087.length co66 : Value).ownBlock) (.slice Ao62 t1083.length co62) t1083) := ⟨by (with_reducible repeat (first | apply Kd.S_alloc | apply Kd.S_drewN | apply Kd.S_drew)); exact Kd.S_mono (Kd.S_far (p := ⟨gb1090, 1, none⟩) (Kd.S_far (p := ⟨gb1090, 0, none⟩) (Kd.S_types HO1085.out BK1090.out (by decide)) (fun _ hk => hk.2) (.int .i64 t1086)) (fun _ hk => hk.2) (.slice Ao66 t1087.length co66)) (fun _ hk => hk.1.2)⟩
      have n1_ : Aside0 (Kd.R (Kd.int .u8) 5 ((w64.setCell ⟨gb1090, 0, none⟩ (.int .i64 t1086)).setCell ⟨gb1090, 1, none⟩ (.slice Ao66 t1087.length co66)) w.heap.size (fun _ => True) (.slice Ao66 t1087.length co66) t1087) := ⟨by (with_reducible repeat (first | apply Kd.R_alloc | apply Kd.R_drewN | apply Kd.R_drew)); exact Kd.R_mono (Kd.R_far (p := ⟨gb1090, 1, none⟩) (Kd.R_far (p := ⟨gb1090, 0, none⟩) (Kd.R_types HO1089.out BK1090.out (by decide)) (fun _ hk => hk.2) (.int .i64 t1086)) (fun _ hk => hk.2) (.slice Ao66 t1087.length co66)) (fun _ hk => trivial)⟩
      have n2_ : Aside0 (((w64.setCell ⟨gb1090, 0, none⟩ (.int .i64 t1086)).setCell ⟨gb1090, 1, none⟩ (.slice Ao66 t1087.length co66)).heap[gb1090]? = some (.cells #[.int .i64 t1086, .slice Ao66 t1087.length co66] 24 (0, 0))) := ⟨by (with_reducible repeat (first | refine blk_drewN ?_ _ | refine blk_drew ?_ | refine blk_alloc ?_ _)); refine blk_put (cs := #[.int .i64 t1086, .slice none 0 0]) ?_ 1 _ rfl; (with_reducible repeat (first | refine blk_drewN ?_ _ | refine blk_drew ?_ | refine blk_alloc ?_ _)); refine blk_put (cs := #[.int .i64 0, .slice none 0 0]) ?_ 0 _ rfl; (with_reducible repeat (first | refine blk_drewN ?_ _ | refine blk_drew ?_ | refine blk_alloc ?_ _)); exact BK1090.out⟩
      have n3_ : Aside0 (Below w.heap.size w ((w64.setCell ⟨gb1090, 0, none⟩ (.int .i64 t1086)).setCell ⟨gb1090, 1, none⟩ (.slice Ao66 t1087.length co66))) := ⟨by repeat (first | (with_reducible first | exact HB.out | apply below_alloc | apply pw_below_drewN | apply below_drew1 | refine below_set ?_ GE1090.out) | exact HB.out)⟩
      (try clear HO1085)
      (try clear HO1089)
      (try clear BK1090)
      (try clear HB)
      generalize ((w64.setCell ⟨gb1090, 0, none⟩ (.int .i64 t1086)).setCell ⟨gb1090, 1, none⟩ (.slice Ao66 t1087.length co66)) = w67 at n0_ n1_ n2_ n3_ ⊢
      have HO1085 := n0_
      have HO1089 := n1_
      have BK1090 := n2_
      have HB := n3_
      clear n0_ n1_ n2_ n3_
      have n0_ := Aside0.mk (Kd.S_drew HO1085.out)
      have n1_ := Aside0.mk (Kd.R_drew HO1089.out)
      have n2_ := Aside0.mk (blk_drew BK1090.out)
      have n3_ := Aside0.mk (below_drew1 HB.out)
      clear HO1085
      clear HO1089
      clear BK1090
      clear HB
      have HO1085 := n0_
      have HO1089 := n1_
      have BK1090 := n2_
      have HB := n3_
      clear n0_ n1_ n2_ n3_
      refine start_ (n := 7) (S := fun w' => w'.cell? ⟨gb1090, 0, none⟩ = some (.int .i64 t1086) ∧ w'.cell? ⟨gb1090, 1, none⟩ = some (.slice Ao66 t1087.length co66)) (ds := []) #[false, false, false, false, false, false, false] (by kernel_rfl) rfl rfl ⟨(blk_cell BK1090.out 0).trans (by first | rfl | (simp only [*] <;> rfl)), (blk_cell BK1090.out 1).trans (by first | rfl | (simp only [*] <;> rfl))⟩ (fun hHeld => ?_)
      generalize w67.drew = w68 at HO1085 HO1089 BK1090 HB hHeld ⊢
      refine pure_ (i := 0) (N := some 18) (v := ?_) (a' := ?_) #[true, false, false, false, false, false, false] rfl rfl (by kernel_rfl) (fun _ _ _ h => h) (Or.inl ⟨by rfl, ?_⟩) ?_ ?_
      rotate_left
      · intro w'
        go_simp
        with_reducible rfl
      rotate_left
      · simp only [Act.put, List.setIfInBounds_toArray, List.set_cons_zero, List.set_cons_succ, i64_w, i32_w]
        rfl
      refine pure_ (i := 3) (N := some 21) (v := ?_) (a' := ?_) #[true, false, false, true, false, false, false] rfl rfl (by kernel_rfl) (fun _ _ _ h => h) (Or.inl ⟨by rfl, ?_⟩) ?_ ?_
      rotate_left
      · intro w'
        go_simp
        with_reducible rfl
      rotate_left
      · simp only [Act.put, List.setIfInBounds_toArray, List.set_cons_zero, List.set_cons_succ, i64_w, i32_w]
        rfl
      refine take_ (i := 4) (N := some 22) (v := ?_) (a' := ?_) #[true, false, false, true, true, false, false] rfl rfl (by kernel_rfl) (fun _ _ _ h => h) (Or.inl ⟨by rfl, ?_⟩) hHeld ?_ ?_
      rotate_left
      · rintro w' ⟨s0, s1⟩
        go_simp
        with_reducible rfl
      rotate_left
      · simp only [Act.put, List.setIfInBounds_toArray, List.set_cons_zero, List.set_cons_succ, i64_w, i32_w]
        rfl
      refine one_ (i := 1) (N := some 19) #[true, true, false, true, true, false, false] rfl rfl (by kernel_rfl) (by decide) (fun K hK => ?_)
      refine goes_ Try.func45 (by kernel_rfl) rfl #[.slice Ao62 t1083.length co62] (by rfl) rfl rfl (by (try simp only [List.map_toArray, List.map_cons, List.map_nil]); first | done | rfl | (simp only [List.length_drop, List.length_take]; rfl)) ?_
      with_reducible refine (spec_PackWords.calls k _ _ t1083 t1091 t1092 _ ?side1 ?side2 A60.out).mono ?_
      (case side1 => repeat (first | exact (Kd.S_reads' HO1085.out).2.2 | (with_reducible refine Kd.C_alloc ?_ _) | (with_reducible refine Kd.C_drewN ?_ _) | (with_reducible refine Kd.C_drew ?_)))
      (case side2 => exact (Kd.S_reads' HO1085.out).2.1)
      rintro e w69 ⟨v1093, rfl, ho0, hb⟩
      refine ⟨_, rfl, ?_⟩
      have n0_ := Aside0.mk (Kd.S_elder' (by (with_reducible repeat (first | apply Kd.S_alloc | apply Kd.S_drewN | apply Kd.S_drew)); exact HO1085.out) (Kd.R_base ho0) hb)
      have n1_ := Aside0.mk (Kd.R_elder' (by (with_reducible repeat (first | apply Kd.R_alloc | apply Kd.R_drewN | apply Kd.R_drew)); exact HO1089.out) (Kd.R_base ho0) hb)
      have n2_ := Aside0.mk (Kd.R_lower (Kd.R_new' ho0 (Kd.R_lt (by (with_reducible repeat (first | apply Kd.R_alloc | apply Kd.R_drewN | apply Kd.R_drew)); exact HO1089.out))) (below_size (by repeat (first | (with_reducible first | exact HB.out | apply below_alloc | apply pw_below_drewN | apply below_drew1 | refine below_set ?_ GE1090.out) | exact HB.out))))
      have n3_ := Aside0.mk (blk_below (g := gb1090) (o := .cells #[.int .i64 t1086, .slice Ao66 t1087.length co66] 24 (0, 0)) (by (with_reducible repeat (first | refine blk_drewN ?_ _ | refine blk_drew ?_ | refine blk_alloc ?_ _)); exact BK1090.out) hb)
      have n4_ := Aside0.mk (below_step (by repeat (first | (with_reducible first | exact HB.out | apply below_alloc | apply pw_below_drewN | apply below_drew1 | refine below_set ?_ GE1090.out) | exact HB.out)) hb)
      clear HO1085
      clear HO1089
      clear BK1090
      clear HB
      have HO1085 := n0_
      have HO1089 := n1_
      have HO1094 := n2_
      have BK1090 := n3_
      have HB := n4_
      clear n0_ n1_ n2_ n3_ n4_
      (try clear hb)
      (try clear hb2)
      (try clear hk)
      (try clear hi)
      (try clear ho0)
      refine hK.out _ _ ⟨(blk_cell BK1090.out 0).trans (by first | rfl | (simp only [*] <;> rfl)), (blk_cell BK1090.out 1).trans (by first | rfl | (simp only [*] <;> rfl))⟩ (fun hHeld => ?_)
      clear hK K
      refine norm_ (a' := ?_) ?_ ?_
      rotate_left
      · show Act.put _ (some 19) _ = _
        simp only [Act.put, List.setIfInBounds_toArray, List.set_cons_zero, List.set_cons_succ, i64_w, i32_w]
        rfl
      refine pure_ (i := 2) (N := some 20) (v := ?_) (a' := ?_) #[true, true, true, true, true, false, false] rfl rfl (by kernel_rfl) (fun _ _ _ h => h) (Or.inl ⟨by rfl, ?_⟩) ?_ ?_
      rotate_left
      · intro w'
        go_simp
        with_reducible rfl
      rotate_left
      · simp only [Act.put, List.setIfInBounds_toArray, List.set_cons_zero, List.set_cons_succ, i64_w, i32_w]
        rfl
      refine pure_ (i := 5) (N := some 23) (v := ?_) (a' := ?_) #[true, true, true, true, true, true, false] rfl rfl (by kernel_rfl) (fun _ _ _ h => h) (Or.inl ⟨by rfl, ?_⟩) ?_ ?_
      rotate_left
      · intro w'
        go_simp
        with_reducible rfl
      rotate_left
      · simp only [Act.put, List.setIfInBounds_toArray, List.set_cons_zero, List.set_cons_succ, i64_w, i32_w]
        rfl
      refine pure_ (i := 6) (N := some 2) (v := ?_) (a' := ?_) #[true, true, true, true, true, true, true] rfl rfl (by kernel_rfl) (fun _ _ _ h => h) (Or.inl ⟨by rfl, ?_⟩) ?_ ?_
      rotate_left
      · intro w'
        go_simp
        with_reducible rfl
      rotate_left
      · simp only [Act.put, List.setIfInBounds_toArray, List.set_cons_zero, List.set_cons_succ, i64_w, i32_w]
        rfl
      refine done_ (by kernel_rfl) ?_
      try go_wp2
      go_ret
      exact ⟨by first | rfl | (simp [errW_none, errW_some] <;> rfl) | (simp [*, errW_none, errW_some] <;> rfl), by repeat (first | (with_reducible first | exact HB.out | apply below_alloc | apply pw_below_drewN | apply below_drew1 | refine below_set ?_ GE1090.out) | exact HB.out)⟩

/-- THE ONE PURE STATEMENT of laws_FnWords: yours. -/
def laws_FnWords.Pure : Prop := ∀ (l0 : List Int), l0.length ≤ maxLen → l0.length * 1 ≤ 140737488351232 → (∀ x ∈ l0, (Lit.int .u8 x).wf = true) → ∃ k, laws_FnWords.f k l0 = some true
theorem laws_FnWords.walk (P : laws_FnWords.Pure) (a0 : Option Addr) (len0 cap0 : Nat) (z0 : List Int) (w : World) (w0 : (a0 = none ∧ len0 = 0 ∧ cap0 = 0 ∧ z0 = []) ∨ ∃ x, a0 = some x ∧ len0 ≤ cap0 ∧ cap0 ≤ maxLen ∧ z0.length = cap0 ∧ (∀ i, i < z0.length → w.cell? (x.add i) = some (.int .u8 (z0.getD i 0))) ∧ ∀ n ∈ z0, (Lit.int .u8 n).wf = true) (y0 : len0 * 1 ≤ 140737488351232) :
    Calls Try.prog 8 #[.slice a0 len0 cap0] w fun e w' => e = .returned (.bool true) ∧ Below w.heap.size w w' := by
  obtain ⟨l0, rfl, hr0, hm0, hw0, hc0⟩ := ReadsInt.ofRowC w0
  obtain ⟨k, h⟩ := P l0 hm0 y0 hw0
  refine (laws_FnWords.calls k _ _ l0 true w (Kd.C_of_reads (d := (0 : Int)) (h1 := fun _ => rfl) hr0) hc0 h).mono ?_
  rintro e w' ⟨rfl, hd⟩
  exact ⟨rfl, hd⟩

end Go.Proofs.Ytmmhghddldhogaa.S
