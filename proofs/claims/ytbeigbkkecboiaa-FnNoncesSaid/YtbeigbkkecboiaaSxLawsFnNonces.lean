/- Each function of the program that stands below is a plain Lean function, and the call of the program comes to what that function says. No condition beyond those in the statements. -/
import Derived.Test.YtbeigbkkecboiaaSx0
import Derived.Test.YtbeigbkkecboiaaSxLawsHelp
import Derived.Test.YtbeigbkkecboiaaSxImplDigest
import Derived.Test.YtbeigbkkecboiaaSxSpecEasiestNonce
import Derived.Test.YtbeigbkkecboiaaSxImplZerosOf
import Derived.Test.YtbeigbkkecboiaaSxImplEasiestNonce
import Derived.Test.YtbeigbkkecboiaaSxSpecDrawEasiestNonce
import Derived.Test.YtbeigbkkecboiaaSxImplPutNumber
import Derived.Test.YtbeigbkkecboiaaSxImplWorkOf
namespace Go.Proofs.Ytbeigbkkecboiaa.S
open Go.RowKit Go.Proofs.YtbeigbkkecboiaaW.PrintWords Go.Proofs.YtbeigbkkecboiaaW.PrintLast Go.Proofs.YtbeigbkkecboiaaW.PrintMore
attribute [local go_sem] max2_int min2_int max_two min_two max_three min_three max_four min_four   -- for this text's walks alone
set_option linter.unusedVariables false
set_option linter.unusedSimpArgs false

/-! ### laws_FnNonces: function 15 -/
mutual
def laws_FnNonces.j0 : Nat → List Int → Int → Int → Int → Int → Int → Int → Option (Bool)
  | 0, _, _, _, _, _, _, _ => none
  | k + 1, x3, x4, x5, x6, x8, x839000, x839001 => laws_FnNonces.l0 k x3 x4 x5 x6 x8 x5 x839000 x839001
def laws_FnNonces.l0 : Nat → List Int → Int → Int → Int → Int → Int → Int → Int → Option (Bool)
  | 0, _, _, _, _, _, _, _, _ => none
  | k + 1, x3, x4, x5, x6, x8, x9, x839000, x839001 => if x9 < x8 then ((some (([] : List Int) : List Int)).bind fun y841 => (if y841.length + x3.length < 140737488355328 then ((some (y841 ++ x3 : List Int)).bind fun y844 => ((impl_PutNumber.f k x9).bind fun bt847 => (if y844.length + bt847.2.length < 140737488355328 then ((impl_Digest.f (y844 ++ bt847.2)).bind fun t854 => ((impl_ZerosOf.f k t854).bind fun t857 => (if t857 ≥ x4 then (none) else (laws_FnNonces.l0 k x3 x4 x5 x6 x8 (wrap64 (x9 + 1)) x839000 x839001)))) else (none)))) else (none))) else (if x839000 = 4 then ((spec_EasiestNonce.f k x3 x4 x5 x6).bind fun bt858 => (some (bt858.1 == 4))) else ((some (([] : List Int) : List Int)).bind fun y860 => (if y860.length + x3.length < 140737488355328 then ((some (y860 ++ x3 : List Int)).bind fun y863 => ((impl_PutNumber.f k x8).bind fun bt866 => (if y863.length + bt866.2.length < 140737488355328 then ((impl_Digest.f (y863 ++ bt866.2)).bind fun t873 => (if x8 ≥ x5 then (if x8 < (wrap64 (x5 + x6)) then ((impl_ZerosOf.f k t873).bind fun t876 => (if t876 ≥ x4 then (if (t873.length : Int) = 32 then ((impl_WorkOf.f x4).bind fun bt877 => (if 0 ≤ (IntKind.u64.wrap (x4)) then (some (bt877.2 == (shl .i64 1 (IntKind.u64.wrap (x4))))) else (none))) else (none)) else (none))) else (none)) else (none))) else (none)))) else (none))))
end
def laws_FnNonces.f (k : Nat) (l0 : List Int) : Option (Bool) := (laws_lwBig.f l0).bind fun t829 => (if t829 = true then (some true) else ((spec_DrawEasiestNonce.f k l0).bind fun bt830 => ((impl_EasiestNonce.f k bt830.1 bt830.2.1 bt830.2.2.1 bt830.2.2.2).bind fun bt836 => (if bt836.1 = 4 then (laws_FnNonces.j0 k bt830.1 bt830.2.1 bt830.2.2.1 bt830.2.2.2 (wrap64 (bt830.2.2.1 + bt830.2.2.2)) bt836.1 bt836.2) else (if bt836.1 = 0 then (laws_FnNonces.j0 k bt830.1 bt830.2.1 bt830.2.2.1 bt830.2.2.2 bt836.2 bt836.1 bt836.2) else ((spec_EasiestNonce.f k bt830.1 bt830.2.1 bt830.2.2.1 bt830.2.2.2).bind fun bt839 => (some (bt839.1 == bt836.1))))))))
theorem laws_FnNonces.mono_l : ∀ k, (∀ y0 y1 y2 y3 y4 y5 y6, LeO (laws_FnNonces.j0 k y0 y1 y2 y3 y4 y5 y6) (laws_FnNonces.j0 (k + 1) y0 y1 y2 y3 y4 y5 y6)) ∧ (∀ y0 y1 y2 y3 y4 y5 y6 y7, LeO (laws_FnNonces.l0 k y0 y1 y2 y3 y4 y5 y6 y7) (laws_FnNonces.l0 (k + 1) y0 y1 y2 y3 y4 y5 y6 y7))
  | 0 => ⟨fun _ _ _ _ _ _ _ r h => by simp [laws_FnNonces.j0] at h, fun _ _ _ _ _ _ _ _ r h => by simp [laws_FnNonces.l0] at h⟩
  | k + 1 => by
    obtain ⟨ih0, ih1⟩ := laws_FnNonces.mono_l k
    refine ⟨?_, ?_⟩
    · intro y0 y1 y2 y3 y4 y5 y6
      unfold laws_FnNonces.j0
      repeat' first
      | (with_reducible exact ih0 _ _ _ _ _ _ _)
      | (with_reducible exact ih1 _ _ _ _ _ _ _ _)
      | (with_reducible exact impl_EasiestNonce.mono _ _ _ _ _)
      | (with_reducible exact impl_PutNumber.mono _ _)
      | (with_reducible exact impl_ZerosOf.mono _ _)
      | (with_reducible exact spec_DrawEasiestNonce.mono _ _)
      | (with_reducible exact spec_EasiestNonce.mono _ _ _ _ _)
      | (with_reducible exact LeO.refl _)
      | (with_reducible exact LeO.none _)
      | (with_reducible refine LeO.ite ?_ ?_)
      | (with_reducible refine LeO.bind ?_ (fun _ => ?_))
      | exact ih0 _ _ _ _ _ _ _
      | exact ih1 _ _ _ _ _ _ _ _
      | exact impl_EasiestNonce.mono _ _ _ _ _
      | exact impl_PutNumber.mono _ _
      | exact impl_ZerosOf.mono _ _
      | exact spec_DrawEasiestNonce.mono _ _
      | exact spec_EasiestNonce.mono _ _ _ _ _
      | exact LeO.none _
      | refine LeO.ite ?_ ?_
      | refine LeO.bind ?_ (fun _ => ?_)
    · intro y0 y1 y2 y3 y4 y5 y6 y7
      unfold laws_FnNonces.l0
      repeat' first
      | (with_reducible exact ih0 _ _ _ _ _ _ _)
      | (with_reducible exact ih1 _ _ _ _ _ _ _ _)
      | (with_reducible exact impl_EasiestNonce.mono _ _ _ _ _)
      | (with_reducible exact impl_PutNumber.mono _ _)
      | (with_reducible exact impl_ZerosOf.mono _ _)
      | (with_reducible exact spec_DrawEasiestNonce.mono _ _)
      | (with_reducible exact spec_EasiestNonce.mono _ _ _ _ _)
      | (with_reducible exact LeO.refl _)
      | (with_reducible exact LeO.none _)
      | (with_reducible refine LeO.ite ?_ ?_)
      | (with_reducible refine LeO.bind ?_ (fun _ => ?_))
      | exact ih0 _ _ _ _ _ _ _
      | exact ih1 _ _ _ _ _ _ _ _
      | exact impl_EasiestNonce.mono _ _ _ _ _
      | exact impl_PutNumber.mono _ _
      | exact impl_ZerosOf.mono _ _
      | exact spec_DrawEasiestNonce.mono _ _
      | exact spec_EasiestNonce.mono _ _ _ _ _
      | exact LeO.none _
      | refine LeO.ite ?_ ?_
      | refine LeO.bind ?_ (fun _ => ?_)
theorem laws_FnNonces.mono : ∀ a0 k, LeO (laws_FnNonces.f k a0) (laws_FnNonces.f (k + 1) a0) := by
  intro a0 k
  obtain ⟨ih0, ih1⟩ := laws_FnNonces.mono_l k
  unfold laws_FnNonces.f
  repeat' first
      | (with_reducible exact ih0 _ _ _ _ _ _ _)
      | (with_reducible exact ih1 _ _ _ _ _ _ _ _)
      | (with_reducible exact impl_EasiestNonce.mono _ _ _ _ _)
      | (with_reducible exact impl_PutNumber.mono _ _)
      | (with_reducible exact impl_ZerosOf.mono _ _)
      | (with_reducible exact spec_DrawEasiestNonce.mono _ _)
      | (with_reducible exact spec_EasiestNonce.mono _ _ _ _ _)
      | (with_reducible exact LeO.refl _)
      | (with_reducible exact LeO.none _)
      | (with_reducible refine LeO.ite ?_ ?_)
      | (with_reducible refine LeO.bind ?_ (fun _ => ?_))
      | exact ih0 _ _ _ _ _ _ _
      | exact ih1 _ _ _ _ _ _ _ _
      | exact impl_EasiestNonce.mono _ _ _ _ _
      | exact impl_PutNumber.mono _ _
      | exact impl_ZerosOf.mono _ _
      | exact spec_DrawEasiestNonce.mono _ _
      | exact spec_EasiestNonce.mono _ _ _ _ _
      | exact LeO.none _
      | refine LeO.ite ?_ ?_
      | refine LeO.bind ?_ (fun _ => ?_)
def laws_FnNonces.T9 : Bool × List (List Nat × List Nat) := (true, [([], []), ([], []), ([], []), ([], []), ([0, 1, 2, 3], [0, 1, 2, 3]), ([4], [4]), ([], []), ([6], [6]), ([5, 7], [5, 7]), ([8, 4, 0, 1, 2, 3, 4, 5, 6, 7, 8], [8])])
def laws_FnNonces.B9 : List Nat := [0, 0, 0, 0, 15, 31, 0, 64, 255, 511]
theorem laws_FnNonces.tab9 : rtab .any (opsOf Try.f15 9) = laws_FnNonces.T9 := by kernel_rfl
theorem laws_FnNonces.bits9 : waitsOk laws_FnNonces.T9.2 laws_FnNonces.B9 = true := by kernel_rfl
set_option maxHeartbeats 8000000 in
set_option maxRecDepth 100000 in
theorem laws_FnNonces.calls (k : Nat) (A0 : Option Addr) (c0 : Nat) (l0 : List Int) (r : Bool) (w : World) (hr0 : Kd.C (Kd.int .u8) w A0 l0.length l0) (hc0 : l0.length ≤ c0) (h : laws_FnNonces.f k l0 = some r) :
    Calls Try.prog 15 #[.slice A0 l0.length c0] w fun e w' => e = .returned (.bool r) ∧ Below w.heap.size w w' := by
  have hu45 := Try.underlying45
  have HR0 := Aside0.mk hr0
  have HC0 := Aside0.mk hc0
  clear hr0 hc0
  have HB := Aside0.mk (Below.refl w.heap.size w)
  have H : ((laws_lwBig.f l0).bind fun t829 => (if t829 = true then (some true) else ((spec_DrawEasiestNonce.f k l0).bind fun bt830 => ((impl_EasiestNonce.f k bt830.1 bt830.2.1 bt830.2.2.1 bt830.2.2.2).bind fun bt836 => (if bt836.1 = 4 then (laws_FnNonces.j0 k bt830.1 bt830.2.1 bt830.2.2.1 bt830.2.2.2 (wrap64 (bt830.2.2.1 + bt830.2.2.2)) bt836.1 bt836.2) else (if bt836.1 = 0 then (laws_FnNonces.j0 k bt830.1 bt830.2.1 bt830.2.2.1 bt830.2.2.2 bt836.2 bt836.1 bt836.2) else ((spec_EasiestNonce.f k bt830.1 bt830.2.1 bt830.2.2.1 bt830.2.2.2).bind fun bt839 => (some (bt839.1 == bt836.1))))))))) = some r := h
  clear h
  replace H := Option.bind_eq_some_iff.mp H
  obtain ⟨t829, A20, H⟩ := H
  replace H : (if t829 = true then (some true) else ((spec_DrawEasiestNonce.f k l0).bind fun bt830 => ((impl_EasiestNonce.f k bt830.1 bt830.2.1 bt830.2.2.1 bt830.2.2.2).bind fun bt836 => (if bt836.1 = 4 then (laws_FnNonces.j0 k bt830.1 bt830.2.1 bt830.2.2.1 bt830.2.2.2 (wrap64 (bt830.2.2.1 + bt830.2.2.2)) bt836.1 bt836.2) else (if bt836.1 = 0 then (laws_FnNonces.j0 k bt830.1 bt830.2.1 bt830.2.2.1 bt830.2.2.2 bt836.2 bt836.1 bt836.2) else ((spec_EasiestNonce.f k bt830.1 bt830.2.1 bt830.2.2.1 bt830.2.2.2).bind fun bt839 => (some (bt839.1 == bt836.1)))))))) = some r := H
  have A2 := Aside0.mk A20
  clear A20
  by_cases c3 : t829 = true
  · subst c3
    have H1 : (some true) = some r := by rw [if_pos rfl] at H; exact H
    clear H
    have H := H1
    clear H1
    obtain rfl := Option.some.inj H
    have hfd42_0 := fun (a0 a1 : Value) (w : World) => (show (Instr.field 42 (.agg #[a0, a1]) 0).run Try.prog w = .ok a0 w from by kernel_rfl)
    have hfd42_1 := fun (a0 a1 : Value) (w : World) => (show (Instr.field 42 (.agg #[a0, a1]) 1).run Try.prog w = .ok a1 w from by kernel_rfl)
    have hfd45_0 := fun (a0 a1 : Value) (w : World) => (show (Instr.field 45 (.agg #[a0, a1]) 0).run Try.prog w = .ok a0 w from by kernel_rfl)
    have hfd45_1 := fun (a0 a1 : Value) (w : World) => (show (Instr.field 45 (.agg #[a0, a1]) 1).run Try.prog w = .ok a1 w from by kernel_rfl)
    go_enter Try.func15, Try.ntmps15
    go_wp2_with (first | ((with_reducible refine gate_callee (f := 22) rfl ?_); refine goesL_ (some 12) rfl rfl Try.func22 (by kernel_rfl) rfl #[.slice A0 l0.length c0] rfl (by (try simp only [List.map_toArray, List.map_cons, List.map_nil]); first | done | rfl | (simp only [List.length_drop, List.length_take]; rfl)) ?_; (with_reducible refine (laws_lwBig.calls _ _ l0 true _ ?side1 ?side2 A2.out).mono ?_); (case side1 => repeat (first | exact HR0.out | (with_reducible refine Kd.C_alloc ?_ _) | (with_reducible refine Kd.C_drewN ?_ _) | (with_reducible refine Kd.C_drew ?_))); (case side2 => exact HC0.out); rintro e w' ⟨rfl, ⟨nd, rfl⟩⟩; refine ⟨_, rfl, ?_⟩))
    go_ret
    exact ⟨by first | rfl | (simp [errW_none, errW_some] <;> rfl) | (simp [*, errW_none, errW_some] <;> rfl), by repeat (first | (with_reducible first | exact HB.out | apply below_alloc | apply pw_below_drewN | apply below_drew1) | exact HB.out)⟩
  · replace c3 := Bool.eq_false_iff.mpr c3
    subst c3
    have H1 : ((spec_DrawEasiestNonce.f k l0).bind fun bt830 => ((impl_EasiestNonce.f k bt830.1 bt830.2.1 bt830.2.2.1 bt830.2.2.2).bind fun bt836 => (if bt836.1 = 4 then (laws_FnNonces.j0 k bt830.1 bt830.2.1 bt830.2.2.1 bt830.2.2.2 (wrap64 (bt830.2.2.1 + bt830.2.2.2)) bt836.1 bt836.2) else (if bt836.1 = 0 then (laws_FnNonces.j0 k bt830.1 bt830.2.1 bt830.2.2.1 bt830.2.2.2 bt836.2 bt836.1 bt836.2) else ((spec_EasiestNonce.f k bt830.1 bt830.2.1 bt830.2.2.1 bt830.2.2.2).bind fun bt839 => (some (bt839.1 == bt836.1))))))) = some r := by rw [if_neg (show ¬ (false = true) by decide)] at H; exact H
    clear H
    have H := H1
    clear H1
    replace H := Option.bind_eq_some_iff.mp H
    obtain ⟨⟨t830, t831, t832, t833⟩, A40, H⟩ := H
    replace H : ((impl_EasiestNonce.f k t830 t831 t832 t833).bind fun bt836 => (if bt836.1 = 4 then (laws_FnNonces.j0 k t830 t831 t832 t833 (wrap64 (t832 + t833)) bt836.1 bt836.2) else (if bt836.1 = 0 then (laws_FnNonces.j0 k t830 t831 t832 t833 bt836.2 bt836.1 bt836.2) else ((spec_EasiestNonce.f k t830 t831 t832 t833).bind fun bt839 => (some (bt839.1 == bt836.1)))))) = some r := H
    have A4 := Aside0.mk A40
    clear A40
    replace H := Option.bind_eq_some_iff.mp H
    obtain ⟨⟨t836, t837⟩, A50, H⟩ := H
    replace H : (if t836 = 4 then (laws_FnNonces.j0 k t830 t831 t832 t833 (wrap64 (t832 + t833)) t836 t837) else (if t836 = 0 then (laws_FnNonces.j0 k t830 t831 t832 t833 t837 t836 t837) else ((spec_EasiestNonce.f k t830 t831 t832 t833).bind fun bt839 => (some (bt839.1 == t836))))) = some r := H
    have A5 := Aside0.mk A50
    clear A50
    have HC6 := Aside0.mk H
    clear H
    have hfd42_0 := fun (a0 a1 : Value) (w : World) => (show (Instr.field 42 (.agg #[a0, a1]) 0).run Try.prog w = .ok a0 w from by kernel_rfl)
    have hfd42_1 := fun (a0 a1 : Value) (w : World) => (show (Instr.field 42 (.agg #[a0, a1]) 1).run Try.prog w = .ok a1 w from by kernel_rfl)
    have hfd45_0 := fun (a0 a1 : Value) (w : World) => (show (Instr.field 45 (.agg #[a0, a1]) 0).run Try.prog w = .ok a0 w from by kernel_rfl)
    have hfd45_1 := fun (a0 a1 : Value) (w : World) => (show (Instr.field 45 (.agg #[a0, a1]) 1).run Try.prog w = .ok a1 w from by kernel_rfl)
    go_enter Try.func15, Try.ntmps15
    go_upto_if 29 with (first | ((with_reducible refine gate_callee (f := 22) rfl ?_); refine goesL_ (some 12) rfl rfl Try.func22 (by kernel_rfl) rfl #[.slice A0 l0.length c0] rfl (by (try simp only [List.map_toArray, List.map_cons, List.map_nil]); first | done | rfl | (simp only [List.length_drop, List.length_take]; rfl)) ?_; (with_reducible refine (laws_lwBig.calls _ _ l0 false _ ?side1 ?side2 A2.out).mono ?_); (case side1 => repeat (first | exact HR0.out | (with_reducible refine Kd.C_alloc ?_ _) | (with_reducible refine Kd.C_drewN ?_ _) | (with_reducible refine Kd.C_drew ?_))); (case side2 => exact HC0.out); rintro e w' ⟨rfl, ⟨nd, rfl⟩⟩; refine ⟨_, rfl, ?_⟩) | ((with_reducible refine gate_callee (f := 54) rfl ?_); refine goesL_ (some 15) rfl rfl Try.func54 (by kernel_rfl) rfl #[.slice A0 l0.length c0] rfl (by (try simp only [List.map_toArray, List.map_cons, List.map_nil]); first | done | rfl | (simp only [List.length_drop, List.length_take]; rfl)) ?_; (with_reducible refine (spec_DrawEasiestNonce.calls k _ _ l0 t830 t831 t832 t833 _ ?side1 ?side2 A4.out).mono ?_); (case side1 => repeat (first | exact HR0.out | (with_reducible refine Kd.C_alloc ?_ _) | (with_reducible refine Kd.C_drewN ?_ _) | (with_reducible refine Kd.C_drew ?_))); (case side2 => exact HC0.out); rintro e w7 ⟨v834, rfl, ho0, hb⟩; refine ⟨_, rfl, ?_⟩; have n0_ := Aside0.mk (Kd.R_lower ho0 (below_size (by repeat (first | (with_reducible first | exact HB.out | apply below_alloc | apply pw_below_drewN | apply below_drew1) | exact HB.out)))); have n1_ := Aside0.mk (below_step (by repeat (first | (with_reducible first | exact HB.out | apply below_alloc | apply pw_below_drewN | apply below_drew1) | exact HB.out)) hb); clear HB; have HO835 := n0_; have HB := n1_; clear n0_ n1_; (try clear hb); (try clear hb2); (try clear hk); (try clear hi); (try clear ho0); obtain ⟨Ao8, co8, eo8⟩ := Kd.R_slice HO835.out; subst eo8) | ((with_reducible refine gate_callee (f := 47) rfl ?_); refine goesL_ (some 24) rfl rfl Try.func47 (by kernel_rfl) rfl #[.slice Ao8 t830.length co8, .int .i64 t831, .int .i64 t832, .int .i64 t833] rfl (by (try simp only [List.map_toArray, List.map_cons, List.map_nil]); first | done | rfl | (simp only [List.length_drop, List.length_take]; rfl)) ?_; (with_reducible refine (impl_EasiestNonce.calls k _ _ t830 t831 t832 t833 t836 t837 _ ?side1 ?side2 A5.out).mono ?_); (case side1 => repeat (first | exact (Kd.R_reads' HO835.out).2.2 | (with_reducible refine Kd.C_alloc ?_ _) | (with_reducible refine Kd.C_drewN ?_ _) | (with_reducible refine Kd.C_drew ?_))); (case side2 => exact (Kd.R_reads' HO835.out).2.1); rintro e w9 ⟨rfl, hb⟩; refine ⟨_, rfl, ?_⟩; have n0_ := Aside0.mk (Kd.R_below (by (with_reducible repeat (first | apply Kd.R_alloc | apply Kd.R_drewN | apply Kd.R_drew)); exact HO835.out) hb); have n1_ := Aside0.mk (below_step (by repeat (first | (with_reducible first | exact HB.out | apply below_alloc | apply pw_below_drewN | apply below_drew1) | exact HB.out)) hb); clear HO835; clear HB; have HO835 := n0_; have HB := n1_; clear n0_ n1_; (try clear hb); (try clear hb2); (try clear hk); (try clear hi)) | ((with_reducible refine gate_dst (N := 7) rfl ?_); (try (refine gate_guard (by rfl) ?_; dsimp only)); refine box_event ?hg (N := 7) ?hd (cs := #[.int .i64 0, .int .i64 0]) (t := 45) ?hr ?_; (case hd => rfl); (case hg => rfl); (case hr => first | (go_simp; done) | (go_simp; rfl)); intro gb838 hg w10 hbox hb; have n0_ := Aside0.mk (Kd.R_below (by (with_reducible repeat (first | apply Kd.R_alloc | apply Kd.R_drewN | apply Kd.R_drew)); exact HO835.out) hb); have n1_ := Aside0.mk (below_step (by repeat (first | (with_reducible first | exact HB.out | apply below_alloc | apply pw_below_drewN | apply below_drew1) | exact HB.out)) hb); have n2_ := Aside0.mk (hbox); have n3_ := Aside0.mk ((by rw [hg]; exact (below_size (by repeat (first | (with_reducible first | exact HB.out | apply below_alloc | apply pw_below_drewN | apply below_drew1) | exact HB.out))) : w.heap.size ≤ gb838)); have n4_ := Aside0.mk ((by rw [hg]; exact (below_size (by repeat (first | (with_reducible first | exact HB.out | apply below_alloc | apply pw_below_drewN | apply below_drew1) | exact HB.out))) : w.heap.size ≤ gb838)); clear HO835; clear HB; have HO835 := n0_; have HB := n1_; have BK838 := n2_; have GW838 := n3_; have GE838 := n4_; clear n0_ n1_ n2_ n3_ n4_; clear hb hbox hg; have hcz11_0 : w10.cell? ⟨gb838, 0, none⟩ = some (.int .i64 0) := (blk_cell BK838.out 0).trans (by first | rfl | (simp only [*] <;> rfl)); have hcz11_1 : w10.cell? ⟨gb838, 1, none⟩ = some (.int .i64 0) := (blk_cell BK838.out 1).trans (by first | rfl | (simp only [*] <;> rfl)); have hfz11_0 := blk_frozen BK838.out 0; have hfz11_1 := blk_frozen BK838.out 1))
    (try simp only [Act.put, List.setIfInBounds_toArray, List.set_cons_zero, List.set_cons_succ])
    go_cut [8] (fun v8 wc => ∃ (kq : Nat) (x8_5 : Int), v8 = .int .i64 x8_5 ∧ Aside0 (laws_FnNonces.j0 kq t830 t831 t832 t833 x8_5 t836 t837 = some r) ∧ Aside0 (kq ≤ k) ∧ Aside0 (Kd.R (Kd.int .u8) 5 wc w.heap.size (fun _ => True) (.slice Ao8 t830.length co8) t830) ∧ Aside0 (wc.heap[gb838]? = some (.cells #[.int .i64 t836, .int .i64 t837] 45 (0, 0))) ∧ Aside0 (Below w.heap.size w wc))
    case first =>
      have H := HC6.out
      clear HC6
      by_cases c12 : t836 = 4
      · rw [if_pos c12] at H
        have c12b0 : (t836 == 4) = true := beq_iff_eq.mpr c12
        have c12b1 : (t836 != 4) = false := bne_eq_false_iff_eq.mpr c12
        clear c12
        (first | rw [c12b0] | (simp only [i64_w, i32_w]; rw [c12b0]) | skip)
        have H' := Aside0.mk H
        clear H
        go_wp2
        go_meet
        case rel => exact ⟨_, (wrap64 (t832 + t833)), (by first | rfl | (simp; done) | (simp [*]; done)), H', ⟨by first | omega | exact Nat.le_refl _⟩, ⟨by (with_reducible repeat (first | apply Kd.R_alloc | apply Kd.R_drewN | apply Kd.R_drew)); exact Kd.R_mono (Kd.R_far (p := ⟨gb838, 1, none⟩) (Kd.R_far (p := ⟨gb838, 0, none⟩) (Kd.R_types HO835.out BK838.out (by decide)) (fun _ hk => hk.2) (.int .i64 t836)) (fun _ hk => hk.2) (.int .i64 t837)) (fun _ hk => trivial)⟩, ⟨by (with_reducible repeat (first | refine blk_drewN ?_ _ | refine blk_drew ?_ | refine blk_alloc ?_ _)); refine blk_put (cs := #[.int .i64 t836, .int .i64 0]) ?_ 1 _ rfl; (with_reducible repeat (first | refine blk_drewN ?_ _ | refine blk_drew ?_ | refine blk_alloc ?_ _)); refine blk_put (cs := #[.int .i64 0, .int .i64 0]) ?_ 0 _ rfl; (with_reducible repeat (first | refine blk_drewN ?_ _ | refine blk_drew ?_ | refine blk_alloc ?_ _)); exact BK838.out⟩, ⟨by repeat (first | (with_reducible first | exact HB.out | apply below_alloc | apply pw_below_drewN | apply below_drew1 | refine below_set ?_ GE838.out) | exact HB.out)⟩⟩
      · rw [if_neg c12] at H
        have c12b0 : (t836 == 4) = false := beq_eq_false_iff_ne.mpr c12
        have c12b1 : (t836 != 4) = true := bne_iff_ne.mpr c12
        (first | rw [c12b0] | (simp only [i64_w, i32_w]; rw [c12b0]) | skip)
        by_cases c13 : t836 = 0
        · rw [if_pos c13] at H
          have c13b0 : (t836 == 0) = true := beq_iff_eq.mpr c13
          have c13b1 : (t836 != 0) = false := bne_eq_false_iff_eq.mpr c13
          clear c13
          have H' := Aside0.mk H
          clear H
          have hcz14_0 : w10.cell? ⟨gb838, 0, none⟩ = some (.int .i64 0) := (blk_cell BK838.out 0).trans (by first | rfl | (simp only [*] <;> rfl))
          have hcz14_1 : w10.cell? ⟨gb838, 1, none⟩ = some (.int .i64 0) := (blk_cell BK838.out 1).trans (by first | rfl | (simp only [*] <;> rfl))
          have hfz14_0 := blk_frozen BK838.out 0
          have hfz14_1 := blk_frozen BK838.out 1
          go_wp2
          go_meet
          case rel => exact ⟨_, (t837), (by first | rfl | (simp; done) | (simp [*]; done)), H', ⟨by first | omega | exact Nat.le_refl _⟩, ⟨by (with_reducible repeat (first | apply Kd.R_alloc | apply Kd.R_drewN | apply Kd.R_drew)); exact Kd.R_mono (Kd.R_far (p := ⟨gb838, 1, none⟩) (Kd.R_far (p := ⟨gb838, 0, none⟩) (Kd.R_types HO835.out BK838.out (by decide)) (fun _ hk => hk.2) (.int .i64 t836)) (fun _ hk => hk.2) (.int .i64 t837)) (fun _ hk => trivial)⟩, ⟨by (with_reducible repeat (first | refine blk_drewN ?_ _ | refine blk_drew ?_ | refine blk_alloc ?_ _)); refine blk_put (cs := #[.int .i64 t836, .int .i64 0]) ?_ 1 _ rfl; (with_reducible repeat (first | refine blk_drewN ?_ _ | refine blk_drew ?_ | refine blk_alloc ?_ _)); refine blk_put (cs := #[.int .i64 0, .int .i64 0]) ?_ 0 _ rfl; (with_reducible repeat (first | refine blk_drewN ?_ _ | refine blk_drew ?_ | refine blk_alloc ?_ _)); exact BK838.out⟩, ⟨by repeat (first | (with_reducible first | exact HB.out | apply below_alloc | apply pw_below_drewN | apply below_drew1 | refine below_set ?_ GE838.out) | exact HB.out)⟩⟩
        · rw [if_neg c13] at H
          have c13b0 : (t836 == 0) = false := beq_eq_false_iff_ne.mpr c13
          have c13b1 : (t836 != 0) = true := bne_iff_ne.mpr c13
          replace H := Option.bind_eq_some_iff.mp H
          obtain ⟨⟨t839, t840⟩, A150, H⟩ := H
          replace H : (some (t839 == t836)) = some r := H
          have A15 := Aside0.mk A150
          clear A150
          obtain rfl := Option.some.inj H
          have hcz16_0 : w10.cell? ⟨gb838, 0, none⟩ = some (.int .i64 0) := (blk_cell BK838.out 0).trans (by first | rfl | (simp only [*] <;> rfl))
          have hcz16_1 : w10.cell? ⟨gb838, 1, none⟩ = some (.int .i64 0) := (blk_cell BK838.out 1).trans (by first | rfl | (simp only [*] <;> rfl))
          have hfz16_0 := blk_frozen BK838.out 0
          have hfz16_1 := blk_frozen BK838.out 1
          try go_wp2
          have n0_ : Aside0 (Kd.R (Kd.int .u8) 5 ((w10.setCell ⟨gb838, 0, none⟩ (.int .i64 t836)).setCell ⟨gb838, 1, none⟩ (.int .i64 t837)) w.heap.size (fun _ => True) (.slice Ao8 t830.length co8) t830) := ⟨by (with_reducible repeat (first | apply Kd.R_alloc | apply Kd.R_drewN | apply Kd.R_drew)); exact Kd.R_mono (Kd.R_far (p := ⟨gb838, 1, none⟩) (Kd.R_far (p := ⟨gb838, 0, none⟩) (Kd.R_types HO835.out BK838.out (by decide)) (fun _ hk => hk.2) (.int .i64 t836)) (fun _ hk => hk.2) (.int .i64 t837)) (fun _ hk => trivial)⟩
          have n1_ : Aside0 (((w10.setCell ⟨gb838, 0, none⟩ (.int .i64 t836)).setCell ⟨gb838, 1, none⟩ (.int .i64 t837)).heap[gb838]? = some (.cells #[.int .i64 t836, .int .i64 t837] 45 (0, 0))) := ⟨by (with_reducible repeat (first | refine blk_drewN ?_ _ | refine blk_drew ?_ | refine blk_alloc ?_ _)); refine blk_put (cs := #[.int .i64 t836, .int .i64 0]) ?_ 1 _ rfl; (with_reducible repeat (first | refine blk_drewN ?_ _ | refine blk_drew ?_ | refine blk_alloc ?_ _)); refine blk_put (cs := #[.int .i64 0, .int .i64 0]) ?_ 0 _ rfl; (with_reducible repeat (first | refine blk_drewN ?_ _ | refine blk_drew ?_ | refine blk_alloc ?_ _)); exact BK838.out⟩
          have n2_ : Aside0 (Below w.heap.size w ((w10.setCell ⟨gb838, 0, none⟩ (.int .i64 t836)).setCell ⟨gb838, 1, none⟩ (.int .i64 t837))) := ⟨by repeat (first | (with_reducible first | exact HB.out | apply below_alloc | apply pw_below_drewN | apply below_drew1 | refine below_set ?_ GE838.out) | exact HB.out)⟩
          (try clear HO835)
          (try clear BK838)
          (try clear HB)
          generalize ((w10.setCell ⟨gb838, 0, none⟩ (.int .i64 t836)).setCell ⟨gb838, 1, none⟩ (.int .i64 t837)) = w17 at n0_ n1_ n2_ ⊢
          have HO835 := n0_
          have BK838 := n1_
          have HB := n2_
          clear n0_ n1_ n2_
          have n0_ := Aside0.mk (Kd.R_drew HO835.out)
          have n1_ := Aside0.mk (blk_drew BK838.out)
          have n2_ := Aside0.mk (below_drew1 HB.out)
          clear HO835
          clear BK838
          clear HB
          have HO835 := n0_
          have BK838 := n1_
          have HB := n2_
          clear n0_ n1_ n2_
          refine start_ (n := 10) (S := fun w' => w'.cell? ⟨gb838, 0, none⟩ = some (.int .i64 t836) ∧ w'.cell? ⟨gb838, 1, none⟩ = some (.int .i64 t837)) (ds := []) #[false, false, false, false, false, false, false, false, false, false] (by kernel_rfl) rfl rfl ⟨(blk_cell BK838.out 0).trans (by first | rfl | (simp only [*] <;> rfl)), (blk_cell BK838.out 1).trans (by first | rfl | (simp only [*] <;> rfl))⟩ (fun hHeld => ?_); refine with_tabW laws_FnNonces.tab9 laws_FnNonces.bits9 (fun HT_ HW_ => ?_)
          generalize w17.drew = w18 at HO835 BK838 HB hHeld ⊢
          refine pure_ (i := 0) (N := some 36) (v := ?_) (a' := ?_) #[true, false, false, false, false, false, false, false, false, false] rfl rfl (any_of HT_.out (by kernel_rfl)) (fun _ _ _ h => h) (Or.inl ⟨by rfl, ?_⟩) ?_ ?_
          rotate_left
          · intro w'
            go_simp
            with_reducible rfl
          rotate_left
          · simp only [Act.put, List.setIfInBounds_toArray, List.set_cons_zero, List.set_cons_succ, i64_w, i32_w]
            rfl
          refine pure_ (i := 1) (N := some 37) (v := ?_) (a' := ?_) #[true, true, false, false, false, false, false, false, false, false] rfl rfl (any_of HT_.out (by kernel_rfl)) (fun _ _ _ h => h) (Or.inl ⟨by rfl, ?_⟩) ?_ ?_
          rotate_left
          · intro w'
            go_simp
            with_reducible rfl
          rotate_left
          · simp only [Act.put, List.setIfInBounds_toArray, List.set_cons_zero, List.set_cons_succ, i64_w, i32_w]
            rfl
          refine pure_ (i := 2) (N := some 38) (v := ?_) (a' := ?_) #[true, true, true, false, false, false, false, false, false, false] rfl rfl (any_of HT_.out (by kernel_rfl)) (fun _ _ _ h => h) (Or.inl ⟨by rfl, ?_⟩) ?_ ?_
          rotate_left
          · intro w'
            go_simp
            with_reducible rfl
          rotate_left
          · simp only [Act.put, List.setIfInBounds_toArray, List.set_cons_zero, List.set_cons_succ, i64_w, i32_w]
            rfl
          refine pure_ (i := 3) (N := some 39) (v := ?_) (a' := ?_) #[true, true, true, true, false, false, false, false, false, false] rfl rfl (any_of HT_.out (by kernel_rfl)) (fun _ _ _ h => h) (Or.inl ⟨by rfl, ?_⟩) ?_ ?_
          rotate_left
          · intro w'
            go_simp
            with_reducible rfl
          rotate_left
          · simp only [Act.put, List.setIfInBounds_toArray, List.set_cons_zero, List.set_cons_succ, i64_w, i32_w]
            rfl
          refine pure_ (i := 6) (N := some 42) (v := ?_) (a' := ?_) #[true, true, true, true, false, false, true, false, false, false] rfl rfl (any_of HT_.out (by kernel_rfl)) (fun _ _ _ h => h) (Or.inl ⟨by rfl, ?_⟩) ?_ ?_
          rotate_left
          · intro w'
            go_simp
            with_reducible rfl
          rotate_left
          · simp only [Act.put, List.setIfInBounds_toArray, List.set_cons_zero, List.set_cons_succ, i64_w, i32_w]
            rfl
          refine take_ (i := 7) (N := some 43) (v := ?_) (a' := ?_) #[true, true, true, true, false, false, true, true, false, false] rfl rfl (take_ofW HT_.out HW_.out (by kernel_rfl)) (fun _ _ _ h => h) (Or.inl ⟨by rfl, ?_⟩) hHeld ?_ ?_
          rotate_left
          · rintro w' ⟨s0, s1⟩
            go_simp
            with_reducible rfl
          rotate_left
          · simp only [Act.put, List.setIfInBounds_toArray, List.set_cons_zero, List.set_cons_succ, i64_w, i32_w]
            rfl
          refine one_ (i := 4) (N := some 40) #[true, true, true, true, true, false, true, true, false, false] rfl rfl (one_of HT_.out (by kernel_rfl)) (by decide) (fun K hK => ?_)
          refine goes_ Try.func46 (by kernel_rfl) rfl #[.slice Ao8 t830.length co8, .int .i64 t831, .int .i64 t832, .int .i64 t833] (by rfl) rfl rfl (by (try simp only [List.map_toArray, List.map_cons, List.map_nil]); first | done | rfl | (simp only [List.length_drop, List.length_take]; rfl)) ?_
          with_reducible refine (spec_EasiestNonce.calls k _ _ t830 t831 t832 t833 t839 t840 _ ?side1 ?side2 A15.out).mono ?_
          (case side1 => repeat (first | exact (Kd.R_reads' HO835.out).2.2 | (with_reducible refine Kd.C_alloc ?_ _) | (with_reducible refine Kd.C_drewN ?_ _) | (with_reducible refine Kd.C_drew ?_)))
          (case side2 => exact (Kd.R_reads' HO835.out).2.1)
          rintro e w19 ⟨rfl, hb⟩
          refine ⟨_, rfl, ?_⟩
          have n0_ := Aside0.mk (Kd.R_below (by (with_reducible repeat (first | apply Kd.R_alloc | apply Kd.R_drewN | apply Kd.R_drew)); exact HO835.out) hb)
          have n1_ := Aside0.mk (blk_below (g := gb838) (o := .cells #[.int .i64 t836, .int .i64 t837] 45 (0, 0)) (by (with_reducible repeat (first | refine blk_drewN ?_ _ | refine blk_drew ?_ | refine blk_alloc ?_ _)); exact BK838.out) hb)
          have n2_ := Aside0.mk (below_step (by repeat (first | (with_reducible first | exact HB.out | apply below_alloc | apply pw_below_drewN | apply below_drew1 | refine below_set ?_ GE838.out) | exact HB.out)) hb)
          clear HO835
          clear BK838
          clear HB
          have HO835 := n0_
          have BK838 := n1_
          have HB := n2_
          clear n0_ n1_ n2_
          (try clear hb)
          (try clear hb2)
          (try clear hk)
          (try clear hi)
          refine hK.out _ _ ⟨(blk_cell BK838.out 0).trans (by first | rfl | (simp only [*] <;> rfl)), (blk_cell BK838.out 1).trans (by first | rfl | (simp only [*] <;> rfl))⟩ (fun hHeld => ?_)
          clear hK K
          refine norm_ (a' := ?_) ?_ ?_
          rotate_left
          · show Act.put _ (some 40) _ = _
            simp only [Act.put, List.setIfInBounds_toArray, List.set_cons_zero, List.set_cons_succ, i64_w, i32_w]
            rfl
          refine pure_ (i := 5) (N := some 41) (v := ?_) (a' := ?_) #[true, true, true, true, true, true, true, true, false, false] rfl rfl (any_of HT_.out (by kernel_rfl)) (fun _ _ _ h => h) (Or.inl ⟨by rfl, ?_⟩) ?_ ?_
          rotate_left
          · intro w'
            go_simp
            with_reducible rfl
          rotate_left
          · simp only [Act.put, List.setIfInBounds_toArray, List.set_cons_zero, List.set_cons_succ, i64_w, i32_w]
            rfl
          refine pure_ (i := 8) (N := some 44) (v := ?_) (a' := ?_) #[true, true, true, true, true, true, true, true, true, false] rfl rfl (any_of HT_.out (by kernel_rfl)) (fun _ _ _ h => h) (Or.inl ⟨by rfl, ?_⟩) ?_ ?_
          rotate_left
          · intro w'
            go_simp
            with_reducible rfl
          rotate_left
          · simp only [Act.put, List.setIfInBounds_toArray, List.set_cons_zero, List.set_cons_succ, i64_w, i32_w]
            rfl
          refine pure_ (i := 9) (N := some 2) (v := ?_) (a' := ?_) #[true, true, true, true, true, true, true, true, true, true] rfl rfl (any_of HT_.out (by kernel_rfl)) (fun _ _ _ h => h) (Or.inl ⟨by rfl, ?_⟩) ?_ ?_
          rotate_left
          · intro w'
            go_simp
            with_reducible rfl
          rotate_left
          · simp only [Act.put, List.setIfInBounds_toArray, List.set_cons_zero, List.set_cons_succ, i64_w, i32_w]
            rfl
          refine done_ (done_of HT_.out (by kernel_rfl)) ?_
          try go_wp2
          go_ret
          exact ⟨by first | rfl | (simp [errW_none, errW_some] <;> rfl) | (simp [*, errW_none, errW_some] <;> rfl), by repeat (first | (with_reducible first | exact HB.out | apply below_alloc | apply pw_below_drewN | apply below_drew1 | refine below_set ?_ GE838.out) | exact HB.out)⟩
    case rest =>
      clear HC6
      try clear c1
      try clear c2
      try clear p2
      try clear c3
      try clear c4
      try clear c5
      try clear p6
      try clear c12
      try clear c12b0
      try clear c12b1
      try clear c13
      try clear c13b0
      try clear c13b1
      try clear c15
      try clear hcz11_0
      try clear hcz11_1
      try clear hcz14_0
      try clear hcz14_1
      try clear hcz16_0
      try clear hcz16_1
      try clear hfz11_0
      try clear hfz11_1
      try clear hfz14_0
      try clear hfz14_1
      try clear hfz16_0
      try clear hfz16_1
      obtain ⟨kq, x8_5, rfl, HA, HJ5, HO_3, BK838, HB⟩ := hcut
      cases kq with
      | zero => exact absurd HA.out (by simp [laws_FnNonces.j0])
      | succ kj5 =>
        have H := HA.out
        clear HA
        simp only [laws_FnNonces.j0] at H
        have H' := Aside0.mk H
        clear H
        go_wp2
        go_loopg [9] kj5 (fun kq v9 w' => ∃ (x9_2 : Int), v9 = .int .i64 x9_2 ∧ Aside0 (laws_FnNonces.l0 kq t830 t831 t832 t833 x8_5 x9_2 t836 t837 = some r) ∧ Aside0 (kq ≤ kj5) ∧ Aside0 (Kd.R (Kd.int .u8) 5 w' w.heap.size (fun _ => True) (.slice Ao8 t830.length co8) t830) ∧ Aside0 (w'.heap[gb838]? = some (.cells #[.int .i64 t836, .int .i64 t837] 45 (0, 0))) ∧ Aside0 (Below w.heap.size w w'))
        case atStart => exact ⟨(t832), (by first | rfl | (simp; done) | (simp [*]; done)), H', ⟨Nat.le_refl _⟩, ⟨by (with_reducible repeat (first | apply Kd.R_alloc | apply Kd.R_drewN | apply Kd.R_drew)); exact HO_3.out⟩, ⟨by (with_reducible repeat (first | refine blk_drewN ?_ _ | refine blk_drew ?_ | refine blk_alloc ?_ _)); exact BK838.out⟩, ⟨by repeat (first | (with_reducible first | exact HB.out | apply below_alloc | apply pw_below_drewN | apply below_drew1 | refine below_set ?_ GE838.out) | exact HB.out)⟩⟩
        case round =>
          clear H'
          try clear c1
          try clear c2
          try clear p2
          try clear c3
          try clear c4
          try clear c5
          try clear p6
          try clear c12
          try clear c12b0
          try clear c12b1
          try clear c13
          try clear c13b0
          try clear c13b1
          try clear c15
          try clear hcz11_0
          try clear hcz11_1
          try clear hcz14_0
          try clear hcz14_1
          try clear hcz16_0
          try clear hcz16_1
          try clear hfz11_0
          try clear hfz11_1
          try clear hfz14_0
          try clear hfz14_1
          try clear hfz16_0
          try clear hfz16_1
          try clear p2
          try clear p6
          obtain ⟨x9_2, rfl, HA, HK2, HO_3, BK838, HB⟩ := hrel
          cases gk with
          | zero => exact absurd HA.out (by simp [laws_FnNonces.l0])
          | succ k2 =>
            have H := HA.out
            clear HA
            simp only [laws_FnNonces.l0] at H
            by_cases c20 : x9_2 < x8_5
            · rw [if_pos c20] at H
              have c20b0 : decide (x9_2 < x8_5) = true := decide_eq_true c20
              clear c20
              obtain ⟨y841, hy841⟩ : ∃ y_ : List Int, y_ = (([] : List Int)) := ⟨_, rfl⟩
              replace H : (if y841.length + t830.length < 140737488355328 then ((some (y841 ++ t830 : List Int)).bind fun y844 => ((impl_PutNumber.f k2 x9_2).bind fun bt847 => (if y844.length + bt847.2.length < 140737488355328 then ((impl_Digest.f (y844 ++ bt847.2)).bind fun t854 => ((impl_ZerosOf.f k2 t854).bind fun t857 => (if t857 ≥ t831 then (none) else (laws_FnNonces.l0 k2 t830 t831 t832 t833 x8_5 (wrap64 (x9_2 + 1)) t836 t837)))) else (none)))) else (none)) = some r := by first | (rw [hy841]; with_reducible exact H) | (have H2_ := (Option.bind_some _ _).symm.trans H; rw [hy841]; with_reducible exact H2_) | (have H2_ := (Option.bind_some _ _).symm.trans H; with_reducible exact H2_) | with_reducible exact H | (rw [hy841]; exact H) | exact H
              have Ny841 := Aside0.mk hy841
              clear hy841
              by_cases c21 : y841.length + t830.length < 140737488355328
              · rw [if_pos c21] at H
                have LMc21 := Aside0.mk c21
                clear c21
                obtain ⟨y844, hy844⟩ : ∃ y_ : List Int, y_ = (y841 ++ t830) := ⟨_, rfl⟩
                replace H : ((impl_PutNumber.f k2 x9_2).bind fun bt847 => (if y844.length + bt847.2.length < 140737488355328 then ((impl_Digest.f (y844 ++ bt847.2)).bind fun t854 => ((impl_ZerosOf.f k2 t854).bind fun t857 => (if t857 ≥ t831 then (none) else (laws_FnNonces.l0 k2 t830 t831 t832 t833 x8_5 (wrap64 (x9_2 + 1)) t836 t837)))) else (none))) = some r := by first | (rw [hy844]; with_reducible exact H) | (have H2_ := (Option.bind_some _ _).symm.trans H; rw [hy844]; with_reducible exact H2_) | (have H2_ := (Option.bind_some _ _).symm.trans H; with_reducible exact H2_) | with_reducible exact H | (rw [hy844]; exact H) | exact H
                have Ny844 := Aside0.mk hy844
                clear hy844
                replace H := Option.bind_eq_some_iff.mp H
                obtain ⟨⟨t847, t848⟩, A220, H⟩ := H
                replace H : (if y844.length + t848.length < 140737488355328 then ((impl_Digest.f (y844 ++ t848)).bind fun t854 => ((impl_ZerosOf.f k2 t854).bind fun t857 => (if t857 ≥ t831 then (none) else (laws_FnNonces.l0 k2 t830 t831 t832 t833 x8_5 (wrap64 (x9_2 + 1)) t836 t837)))) else (none)) = some r := H
                have A22 := Aside0.mk A220
                clear A220
                by_cases c23 : y844.length + t848.length < 140737488355328
                · rw [if_pos c23] at H
                  have LMc23 := Aside0.mk c23
                  clear c23
                  obtain ⟨y851, hy851⟩ : ∃ y_ : List Int, y_ = (y844 ++ t848) := ⟨_, rfl⟩
                  replace H : ((impl_Digest.f y851).bind fun t854 => ((impl_ZerosOf.f k2 t854).bind fun t857 => (if t857 ≥ t831 then (none) else (laws_FnNonces.l0 k2 t830 t831 t832 t833 x8_5 (wrap64 (x9_2 + 1)) t836 t837)))) = some r := by first | (rw [hy851]; with_reducible exact H) | (have H2_ := (Option.bind_some _ _).symm.trans H; rw [hy851]; with_reducible exact H2_) | (have H2_ := (Option.bind_some _ _).symm.trans H; with_reducible exact H2_) | with_reducible exact H | (rw [hy851]; exact H) | exact H
                  have Ny851 := Aside0.mk hy851
                  clear hy851
                  replace H := Option.bind_eq_some_iff.mp H
                  obtain ⟨t854, A240, H⟩ := H
                  replace H : ((impl_ZerosOf.f k2 t854).bind fun t857 => (if t857 ≥ t831 then (none) else (laws_FnNonces.l0 k2 t830 t831 t832 t833 x8_5 (wrap64 (x9_2 + 1)) t836 t837))) = some r := H
                  have A24 := Aside0.mk A240
                  clear A240
                  replace H := Option.bind_eq_some_iff.mp H
                  obtain ⟨t857, A250, H⟩ := H
                  replace H : (if t857 ≥ t831 then (none) else (laws_FnNonces.l0 k2 t830 t831 t832 t833 x8_5 (wrap64 (x9_2 + 1)) t836 t837)) = some r := H
                  have A25 := Aside0.mk A250
                  clear A250
                  by_cases c26 : t857 ≥ t831
                  · rw [if_pos c26] at H
                    exact absurd H (by simp)
                  · rw [if_neg c26] at H
                    have c26b0 : decide (t831 ≤ t857) = false := decide_eq_false c26
                    clear c26
                    have H' := Aside0.mk H
                    clear H
                    go_wp2_with (first | ((with_reducible refine gate_dst (N := 51) rfl ?_); (try (refine gate_guard (by rfl) ?_; dsimp only)); refine Kd.R_lit (Kd.int .u8) _ 5 ?hg (N := 51) ?hd (xs := ([] : List Int)) (inner := []) (ok := fun _ => True) (okp := fun _ => True) ?hr ?hp (fun _ hk => hk) trivial (Below.refl _ _) (Nat.le_refl _) (by simp) ?_; (case hd => rfl); (case hg => rfl); (case hr => first | (go_simp; done) | (go_simp; rfl)); (case hp => exact (Reps.none _ _)); intro v842 w27 ho28 hb hg_ hnew_; clear hg_ hnew_; (first | rw [← Ny841.out] at ho28 | (simp only [Int.reduceToNat] at ho28; rw [← Ny841.out] at ho28)); have n0_ := Aside0.mk (Kd.R_elder' (by (with_reducible repeat (first | apply Kd.R_alloc | apply Kd.R_drewN | apply Kd.R_drew)); exact HO_3.out) (Kd.R_base ho28) hb); have n1_ := Aside0.mk (Kd.R_lower (Kd.R_new' ho28 (Kd.R_lt (by (with_reducible repeat (first | apply Kd.R_alloc | apply Kd.R_drewN | apply Kd.R_drew)); exact HO_3.out))) (below_size (by repeat (first | (with_reducible first | exact HB.out | apply below_alloc | apply pw_below_drewN | apply below_drew1 | refine below_set ?_ GE838.out) | exact HB.out)))); have n2_ := Aside0.mk (blk_below (g := gb838) (o := .cells #[.int .i64 t836, .int .i64 t837] 45 (0, 0)) (by (with_reducible repeat (first | refine blk_drewN ?_ _ | refine blk_drew ?_ | refine blk_alloc ?_ _)); exact BK838.out) hb); have n3_ := Aside0.mk (below_step (by repeat (first | (with_reducible first | exact HB.out | apply below_alloc | apply pw_below_drewN | apply below_drew1 | refine below_set ?_ GE838.out) | exact HB.out)) hb); clear HO_3; clear BK838; clear HB; have HO_3 := n0_; have HO843 := n1_; have BK838 := n2_; have HB := n3_; clear n0_ n1_ n2_ n3_; clear hb ho28) | ((with_reducible refine gate_builtin (b := .append) (xs := #[.tmp 51, .tmp 52]) rfl ?_); (try (refine gate_guard (by rfl) ?_; dsimp only)); at_builtin; refine Kd.R_append_rows (Kd.int .u8) (w0 := w) w.heap.size rfl (.tmp 51) (.tmp 52) 28 5 (.int .u8 0) 1 rfl Try.underlying28 info5 rfl (by decide) (by omega) v842 y841 t830 _ _ _ (fun k_ => some k_ ≠ (.slice Ao8 t830.length co8 : Value).ownBlock) (fun _ => False) rfl rfl ?aO ?aR (fun _ _ h => h) (fun _ h => h.elim) ?aF ?aB ?aS ?aL ?_; (case aR => repeat (first | exact (Kd.R_reads' HO_3.out).2.2 | (with_reducible refine Kd.C_alloc ?_ _) | (with_reducible refine Kd.C_drewN ?_ _) | (with_reducible refine Kd.C_drew ?_))); (case aB => exact (by repeat (first | (with_reducible first | exact HB.out | apply below_alloc | apply pw_below_drewN | apply below_drew1 | refine below_set ?_ GE838.out) | exact HB.out))); (case aF => exact (fun k_ hk => Kd.fresh' (Kd.R_lt (by (with_reducible repeat (first | apply Kd.R_alloc | apply Kd.R_drewN | apply Kd.R_drew)); exact HO_3.out)) k_ hk)); (case aO => exact (by (with_reducible repeat (first | apply Kd.R_alloc | apply Kd.R_drewN | apply Kd.R_drew)); exact Kd.R_mono HO843.out (fun _ hk => hk.2))); (case aS => exact (below_size (by repeat (first | (with_reducible first | exact HB.out | apply below_alloc | apply pw_below_drewN | apply below_drew1 | refine below_set ?_ GE838.out) | exact HB.out)))); (case aL => have := LMc21.out; omega); intro v845 w29 ho hb hg hat; rw [← Ny844.out] at ho; have n0_ := Aside0.mk (Kd.R_after (ok := (fun _ => True)) (by (with_reducible repeat (first | apply Kd.R_alloc | apply Kd.R_drewN | apply Kd.R_drew)); exact HO_3.out) hg hat); have n1_ := Aside0.mk (blk_grown (g := gb838) (o := .cells #[.int .i64 t836, .int .i64 t837] 45 (0, 0)) (by (with_reducible repeat (first | refine blk_drewN ?_ _ | refine blk_drew ?_ | refine blk_alloc ?_ _)); exact BK838.out) hg (Kd.R_ne HO843.out BK838.out (by decide))); have n2_ := Aside0.mk (hb); have n3_ := Aside0.mk (ho); clear HO_3; clear BK838; clear HB; clear HO843; have HO_3 := n0_; have BK838 := n1_; have HB := n2_; have HO846 := n3_; clear n0_ n1_ n2_ n3_; clear ho hb hg hat) | ((with_reducible refine gate_callee (f := 56) rfl ?_); refine goesL_ (some 55) rfl rfl Try.func56 (by kernel_rfl) rfl #[.int .i64 x9_2] rfl (by (try simp only [List.map_toArray, List.map_cons, List.map_nil]); first | done | rfl | (simp only [List.length_drop, List.length_take]; rfl)) ?_; (with_reducible refine (impl_PutNumber.calls k2 x9_2 t847 t848 _ A22.out).mono ?_); rintro e w30 ⟨v849, rfl, ho0, hb⟩; refine ⟨_, rfl, ?_⟩; have n0_ := Aside0.mk (Kd.R_elder' (by (with_reducible repeat (first | apply Kd.R_alloc | apply Kd.R_drewN | apply Kd.R_drew)); exact HO_3.out) (Kd.R_base ho0) hb); have n1_ := Aside0.mk (Kd.R_elder' (by (with_reducible repeat (first | apply Kd.R_alloc | apply Kd.R_drewN | apply Kd.R_drew)); exact HO846.out) (Kd.R_base ho0) hb); have n2_ := Aside0.mk (Kd.R_lower (Kd.R_new' (Kd.R_new' ho0 (Kd.R_lt (by (with_reducible repeat (first | apply Kd.R_alloc | apply Kd.R_drewN | apply Kd.R_drew)); exact HO_3.out))) (Kd.R_lt (by (with_reducible repeat (first | apply Kd.R_alloc | apply Kd.R_drewN | apply Kd.R_drew)); exact HO846.out))) (below_size (by repeat (first | (with_reducible first | exact HB.out | apply below_alloc | apply pw_below_drewN | apply below_drew1 | refine below_set ?_ GE838.out) | exact HB.out)))); have n3_ := Aside0.mk (blk_below (g := gb838) (o := .cells #[.int .i64 t836, .int .i64 t837] 45 (0, 0)) (by (with_reducible repeat (first | refine blk_drewN ?_ _ | refine blk_drew ?_ | refine blk_alloc ?_ _)); exact BK838.out) hb); have n4_ := Aside0.mk (below_step (by repeat (first | (with_reducible first | exact HB.out | apply below_alloc | apply pw_below_drewN | apply below_drew1 | refine below_set ?_ GE838.out) | exact HB.out)) hb); clear HO_3; clear HO846; clear BK838; clear HB; have HO_3 := n0_; have HO846 := n1_; have HO850 := n2_; have BK838 := n3_; have HB := n4_; clear n0_ n1_ n2_ n3_ n4_; (try clear hb); (try clear hb2); (try clear hk); (try clear hi); (try clear ho0); obtain ⟨Ao32, co32, eo32⟩ := Kd.R_slice HO850.out; subst eo32) | ((with_reducible refine gate_builtin (b := .append) (xs := #[.tmp 53, .tmp 56]) rfl ?_); (try (refine gate_guard (by rfl) ?_; dsimp only)); at_builtin; refine Kd.R_append_rows (Kd.int .u8) (w0 := w) w.heap.size rfl (.tmp 53) (.tmp 56) 28 5 (.int .u8 0) 1 rfl Try.underlying28 info5 rfl (by decide) (by omega) v845 y844 t848 _ _ _ (fun k_ => some k_ ≠ (.slice Ao8 t830.length co8 : Value).ownBlock ∧ some k_ ≠ (.slice Ao32 t848.length co32 : Value).ownBlock) (fun _ => False) rfl rfl ?aO ?aR (fun _ _ h => h) (fun _ h => h.elim) ?aF ?aB ?aS ?aL ?_; (case aR => repeat (first | exact (Kd.R_reads' HO850.out).2.2 | (with_reducible refine Kd.C_alloc ?_ _) | (with_reducible refine Kd.C_drewN ?_ _) | (with_reducible refine Kd.C_drew ?_))); (case aB => exact (by repeat (first | (with_reducible first | exact HB.out | apply below_alloc | apply pw_below_drewN | apply below_drew1 | refine below_set ?_ GE838.out) | exact HB.out))); (case aF => exact (fun k_ hk => ⟨Kd.fresh' (Kd.R_lt (by (with_reducible repeat (first | apply Kd.R_alloc | apply Kd.R_drewN | apply Kd.R_drew)); exact HO_3.out)) k_ hk, Kd.fresh' (Kd.R_lt (by (with_reducible repeat (first | apply Kd.R_alloc | apply Kd.R_drewN | apply Kd.R_drew)); exact HO850.out)) k_ hk⟩)); (case aO => exact (by (with_reducible repeat (first | apply Kd.R_alloc | apply Kd.R_drewN | apply Kd.R_drew)); exact HO846.out)); (case aS => exact (below_size (by repeat (first | (with_reducible first | exact HB.out | apply below_alloc | apply pw_below_drewN | apply below_drew1 | refine below_set ?_ GE838.out) | exact HB.out)))); (case aL => have := LMc23.out; omega); intro v852 w31 ho hb hg hat; rw [← Ny851.out] at ho; have n0_ := Aside0.mk (Kd.R_after (ok := (fun k_ => some k_ ≠ (.slice Ao32 t848.length co32 : Value).ownBlock)) (by (with_reducible repeat (first | apply Kd.R_alloc | apply Kd.R_drewN | apply Kd.R_drew)); exact Kd.R_mono HO_3.out (fun _ hk => ⟨hk.2, hk.1.2⟩)) hg hat); have n1_ := Aside0.mk (blk_grown (g := gb838) (o := .cells #[.int .i64 t836, .int .i64 t837] 45 (0, 0)) (by (with_reducible repeat (first | refine blk_drewN ?_ _ | refine blk_drew ?_ | refine blk_alloc ?_ _)); exact BK838.out) hg (Kd.R_ne HO846.out BK838.out (by decide))); have n2_ := Aside0.mk (Kd.R_after (ok := (fun k_ => some k_ ≠ (.slice Ao8 t830.length co8 : Value).ownBlock)) (by (with_reducible repeat (first | apply Kd.R_alloc | apply Kd.R_drewN | apply Kd.R_drew)); exact Kd.R_mono HO850.out (fun _ hk => ⟨hk.1.2, hk.2⟩)) hg hat); have n3_ := Aside0.mk (hb); have n4_ := Aside0.mk (ho); clear HO_3; clear BK838; clear HO850; clear HB; clear HO846; have HO_3 := n0_; have BK838 := n1_; have HO850 := n2_; have HB := n3_; have HO853 := n4_; clear n0_ n1_ n2_ n3_ n4_; clear ho hb hg hat; obtain ⟨Ao33, co33, eo33⟩ := Kd.R_slice HO853.out; subst eo33) | ((with_reducible refine gate_callee (f := 29) rfl ?_); refine goesL_ (some 58) rfl rfl Try.func29 (by kernel_rfl) rfl #[.slice Ao33 y851.length co33] rfl (by (try simp only [List.map_toArray, List.map_cons, List.map_nil]); first | done | rfl | (simp only [List.length_drop, List.length_take]; rfl)) ?_; (with_reducible refine (impl_Digest.calls (fun k_ => some k_ = (.slice Ao33 y851.length co33 : Value).ownBlock) _ _ y851 t854 _ ?side1 A24.out).mono ?_); (case side1 => exact Kd.R_V (Kd.R_tight rfl (Kd.R_types (HO853.out) BK838.out (by decide)))); rintro e w34 ⟨v855, rfl, ho0, hb⟩; refine ⟨_, rfl, ?_⟩; have n0_ := Aside0.mk (Kd.R_elder' (by (with_reducible repeat (first | apply Kd.R_alloc | apply Kd.R_drewN | apply Kd.R_drew)); exact HO_3.out) (Kd.R_base ho0) hb); have n1_ := Aside0.mk (Kd.R_elder' (by (with_reducible repeat (first | apply Kd.R_alloc | apply Kd.R_drewN | apply Kd.R_drew)); exact HO850.out) (Kd.R_base ho0) hb); have n2_ := Aside0.mk (Kd.R_elder' (by (with_reducible repeat (first | apply Kd.R_alloc | apply Kd.R_drewN | apply Kd.R_drew)); exact HO853.out) (Kd.R_base ho0) hb); have n3_ := Aside0.mk (Kd.R_lower (Kd.R_new' (Kd.R_new' (Kd.R_new' (Kd.R_mono (ok' := fun k_ => True) ho0 (fun _ hk_ => trivial)) (Kd.R_lt (by (with_reducible repeat (first | apply Kd.R_alloc | apply Kd.R_drewN | apply Kd.R_drew)); exact HO_3.out))) (Kd.R_lt (by (with_reducible repeat (first | apply Kd.R_alloc | apply Kd.R_drewN | apply Kd.R_drew)); exact HO850.out))) (Kd.R_lt (by (with_reducible repeat (first | apply Kd.R_alloc | apply Kd.R_drewN | apply Kd.R_drew)); exact HO853.out))) (below_size (by repeat (first | (with_reducible first | exact HB.out | apply below_alloc | apply pw_below_drewN | apply below_drew1 | refine below_set ?_ GE838.out) | exact HB.out)))); have n4_ := Aside0.mk (blk_below (g := gb838) (o := .cells #[.int .i64 t836, .int .i64 t837] 45 (0, 0)) (by (with_reducible repeat (first | refine blk_drewN ?_ _ | refine blk_drew ?_ | refine blk_alloc ?_ _)); exact BK838.out) hb); have n5_ := Aside0.mk (below_step (by repeat (first | (with_reducible first | exact HB.out | apply below_alloc | apply pw_below_drewN | apply below_drew1 | refine below_set ?_ GE838.out) | exact HB.out)) hb); clear HO_3; clear HO850; clear HO853; clear BK838; clear HB; have HO_3 := n0_; have HO850 := n1_; have HO853 := n2_; have HO856 := n3_; have BK838 := n4_; have HB := n5_; clear n0_ n1_ n2_ n3_ n4_ n5_; (try clear hb); (try clear hb2); (try clear hk); (try clear hi); (try clear ho0); obtain ⟨Ao35, co35, eo35⟩ := Kd.R_slice HO856.out; subst eo35) | ((with_reducible refine gate_callee (f := 55) rfl ?_); refine goesL_ (some 59) rfl rfl Try.func55 (by kernel_rfl) rfl #[.slice Ao35 t854.length co35] rfl (by (try simp only [List.map_toArray, List.map_cons, List.map_nil]); first | done | rfl | (simp only [List.length_drop, List.length_take]; rfl)) ?_; (with_reducible refine (impl_ZerosOf.calls k2 _ _ t854 t857 _ ?side1 ?side2 A25.out).mono ?_); (case side1 => repeat (first | exact (Kd.R_reads' HO856.out).2.2 | (with_reducible refine Kd.C_alloc ?_ _) | (with_reducible refine Kd.C_drewN ?_ _) | (with_reducible refine Kd.C_drew ?_))); (case side2 => exact (Kd.R_reads' HO856.out).2.1); rintro e w' ⟨rfl, ⟨nd, rfl⟩⟩; refine ⟨_, rfl, ?_⟩))
                    go_roundg k2
                    case measure => have := HJ5.out; have := HK2.out; omega
                    case rel => exact ⟨(wrap64 (x9_2 + 1)), (by first | rfl | (simp; done) | (simp [*]; done)), H', ⟨by have := HJ5.out; have := HK2.out; omega⟩, ⟨by (with_reducible repeat (first | apply Kd.R_alloc | apply Kd.R_drewN | apply Kd.R_drew)); exact Kd.R_mono HO_3.out (fun _ hk => trivial)⟩, ⟨by (with_reducible repeat (first | refine blk_drewN ?_ _ | refine blk_drew ?_ | refine blk_alloc ?_ _)); exact BK838.out⟩, ⟨by repeat (first | (with_reducible first | exact HB.out | apply below_alloc | apply pw_below_drewN | apply below_drew1 | refine below_set ?_ GE838.out) | exact HB.out)⟩⟩
                · rw [if_neg c23] at H
                  exact absurd H (by simp)
              · rw [if_neg c21] at H
                exact absurd H (by simp)
            · rw [if_neg c20] at H
              have c20b0 : decide (x9_2 < x8_5) = false := decide_eq_false c20
              clear c20
              by_cases c36 : t836 = 4
              · rw [if_pos c36] at H
                have c36b0 : (t836 == 4) = true := beq_iff_eq.mpr c36
                have c36b1 : (t836 != 4) = false := bne_eq_false_iff_eq.mpr c36
                clear c36
                replace H := Option.bind_eq_some_iff.mp H
                obtain ⟨⟨t858, t859⟩, A370, H⟩ := H
                replace H : (some (t858 == 4)) = some r := H
                have A37 := Aside0.mk A370
                clear A370
                obtain rfl := Option.some.inj H
                have hcz38_0 : wr.cell? ⟨gb838, 0, none⟩ = some (.int .i64 t836) := (blk_cell BK838.out 0).trans (by first | rfl | (simp only [*] <;> rfl))
                have hcz38_1 : wr.cell? ⟨gb838, 1, none⟩ = some (.int .i64 t837) := (blk_cell BK838.out 1).trans (by first | rfl | (simp only [*] <;> rfl))
                have hfz38_0 := blk_frozen BK838.out 0
                have hfz38_1 := blk_frozen BK838.out 1
                go_wp2_with (first | ((with_reducible refine gate_callee (f := 46) rfl ?_); refine goesL_ (some 69) rfl rfl Try.func46 (by kernel_rfl) rfl #[.slice Ao8 t830.length co8, .int .i64 t831, .int .i64 t832, .int .i64 t833] rfl (by (try simp only [List.map_toArray, List.map_cons, List.map_nil]); first | done | rfl | (simp only [List.length_drop, List.length_take]; rfl)) ?_; (with_reducible refine (spec_EasiestNonce.calls k2 _ _ t830 t831 t832 t833 t858 t859 _ ?side1 ?side2 A37.out).mono ?_); (case side1 => repeat (first | exact (Kd.R_reads' HO_3.out).2.2 | (with_reducible refine Kd.C_alloc ?_ _) | (with_reducible refine Kd.C_drewN ?_ _) | (with_reducible refine Kd.C_drew ?_))); (case side2 => exact (Kd.R_reads' HO_3.out).2.1); rintro e w39 ⟨rfl, hb⟩; refine ⟨_, rfl, ?_⟩; have n0_ := Aside0.mk (Kd.R_below (by (with_reducible repeat (first | apply Kd.R_alloc | apply Kd.R_drewN | apply Kd.R_drew)); exact HO_3.out) hb); have n1_ := Aside0.mk (blk_below (g := gb838) (o := .cells #[.int .i64 t836, .int .i64 t837] 45 (0, 0)) (by (with_reducible repeat (first | refine blk_drewN ?_ _ | refine blk_drew ?_ | refine blk_alloc ?_ _)); exact BK838.out) hb); have n2_ := Aside0.mk (below_step (by repeat (first | (with_reducible first | exact HB.out | apply below_alloc | apply pw_below_drewN | apply below_drew1 | refine below_set ?_ GE838.out) | exact HB.out)) hb); clear HO_3; clear BK838; clear HB; have HO_3 := n0_; have BK838 := n1_; have HB := n2_; clear n0_ n1_ n2_; (try clear hb); (try clear hb2); (try clear hk); (try clear hi)))
                go_ret
                exact ⟨by first | rfl | (simp [errW_none, errW_some] <;> rfl) | (simp [*, errW_none, errW_some] <;> rfl), by repeat (first | (with_reducible first | exact HB.out | apply below_alloc | apply pw_below_drewN | apply below_drew1 | refine below_set ?_ GE838.out) | exact HB.out)⟩
              · rw [if_neg c36] at H
                have c36b0 : (t836 == 4) = false := beq_eq_false_iff_ne.mpr c36
                have c36b1 : (t836 != 4) = true := bne_iff_ne.mpr c36
                obtain ⟨y860, hy860⟩ : ∃ y_ : List Int, y_ = (([] : List Int)) := ⟨_, rfl⟩
                replace H : (if y860.length + t830.length < 140737488355328 then ((some (y860 ++ t830 : List Int)).bind fun y863 => ((impl_PutNumber.f k2 x8_5).bind fun bt866 => (if y863.length + bt866.2.length < 140737488355328 then ((impl_Digest.f (y863 ++ bt866.2)).bind fun t873 => (if x8_5 ≥ t832 then (if x8_5 < (wrap64 (t832 + t833)) then ((impl_ZerosOf.f k2 t873).bind fun t876 => (if t876 ≥ t831 then (if (t873.length : Int) = 32 then ((impl_WorkOf.f t831).bind fun bt877 => (if 0 ≤ (IntKind.u64.wrap (t831)) then (some (bt877.2 == (shl .i64 1 (IntKind.u64.wrap (t831))))) else (none))) else (none)) else (none))) else (none)) else (none))) else (none)))) else (none)) = some r := by first | (rw [hy860]; with_reducible exact H) | (have H2_ := (Option.bind_some _ _).symm.trans H; rw [hy860]; with_reducible exact H2_) | (have H2_ := (Option.bind_some _ _).symm.trans H; with_reducible exact H2_) | with_reducible exact H | (rw [hy860]; exact H) | exact H
                have Ny860 := Aside0.mk hy860
                clear hy860
                by_cases c40 : y860.length + t830.length < 140737488355328
                · rw [if_pos c40] at H
                  have LMc40 := Aside0.mk c40
                  clear c40
                  obtain ⟨y863, hy863⟩ : ∃ y_ : List Int, y_ = (y860 ++ t830) := ⟨_, rfl⟩
                  replace H : ((impl_PutNumber.f k2 x8_5).bind fun bt866 => (if y863.length + bt866.2.length < 140737488355328 then ((impl_Digest.f (y863 ++ bt866.2)).bind fun t873 => (if x8_5 ≥ t832 then (if x8_5 < (wrap64 (t832 + t833)) then ((impl_ZerosOf.f k2 t873).bind fun t876 => (if t876 ≥ t831 then (if (t873.length : Int) = 32 then ((impl_WorkOf.f t831).bind fun bt877 => (if 0 ≤ (IntKind.u64.wrap (t831)) then (some (bt877.2 == (shl .i64 1 (IntKind.u64.wrap (t831))))) else (none))) else (none)) else (none))) else (none)) else (none))) else (none))) = some r := by first | (rw [hy863]; with_reducible exact H) | (have H2_ := (Option.bind_some _ _).symm.trans H; rw [hy863]; with_reducible exact H2_) | (have H2_ := (Option.bind_some _ _).symm.trans H; with_reducible exact H2_) | with_reducible exact H | (rw [hy863]; exact H) | exact H
                  have Ny863 := Aside0.mk hy863
                  clear hy863
                  replace H := Option.bind_eq_some_iff.mp H
                  obtain ⟨⟨t866, t867⟩, A410, H⟩ := H
                  replace H : (if y863.length + t867.length < 140737488355328 then ((impl_Digest.f (y863 ++ t867)).bind fun t873 => (if x8_5 ≥ t832 then (if x8_5 < (wrap64 (t832 + t833)) then ((impl_ZerosOf.f k2 t873).bind fun t876 => (if t876 ≥ t831 then (if (t873.length : Int) = 32 then ((impl_WorkOf.f t831).bind fun bt877 => (if 0 ≤ (IntKind.u64.wrap (t831)) then (some (bt877.2 == (shl .i64 1 (IntKind.u64.wrap (t831))))) else (none))) else (none)) else (none))) else (none)) else (none))) else (none)) = some r := H
                  have A41 := Aside0.mk A410
                  clear A410
                  by_cases c42 : y863.length + t867.length < 140737488355328
                  · rw [if_pos c42] at H
                    have LMc42 := Aside0.mk c42
                    clear c42
                    obtain ⟨y870, hy870⟩ : ∃ y_ : List Int, y_ = (y863 ++ t867) := ⟨_, rfl⟩
                    replace H : ((impl_Digest.f y870).bind fun t873 => (if x8_5 ≥ t832 then (if x8_5 < (wrap64 (t832 + t833)) then ((impl_ZerosOf.f k2 t873).bind fun t876 => (if t876 ≥ t831 then (if (t873.length : Int) = 32 then ((impl_WorkOf.f t831).bind fun bt877 => (if 0 ≤ (IntKind.u64.wrap (t831)) then (some (bt877.2 == (shl .i64 1 (IntKind.u64.wrap (t831))))) else (none))) else (none)) else (none))) else (none)) else (none))) = some r := by first | (rw [hy870]; with_reducible exact H) | (have H2_ := (Option.bind_some _ _).symm.trans H; rw [hy870]; with_reducible exact H2_) | (have H2_ := (Option.bind_some _ _).symm.trans H; with_reducible exact H2_) | with_reducible exact H | (rw [hy870]; exact H) | exact H
                    have Ny870 := Aside0.mk hy870
                    clear hy870
                    replace H := Option.bind_eq_some_iff.mp H
                    obtain ⟨t873, A430, H⟩ := H
                    replace H : (if x8_5 ≥ t832 then (if x8_5 < (wrap64 (t832 + t833)) then ((impl_ZerosOf.f k2 t873).bind fun t876 => (if t876 ≥ t831 then (if (t873.length : Int) = 32 then ((impl_WorkOf.f t831).bind fun bt877 => (if 0 ≤ (IntKind.u64.wrap (t831)) then (some (bt877.2 == (shl .i64 1 (IntKind.u64.wrap (t831))))) else (none))) else (none)) else (none))) else (none)) else (none)) = some r := H
                    have A43 := Aside0.mk A430
                    clear A430
                    by_cases c44 : x8_5 ≥ t832
                    · rw [if_pos c44] at H
                      have c44b0 : decide (t832 ≤ x8_5) = true := decide_eq_true c44
                      clear c44
                      by_cases c45 : x8_5 < (wrap64 (t832 + t833))
                      · rw [if_pos c45] at H
                        have c45b0 : decide (x8_5 < (wrap64 (t832 + t833))) = true := decide_eq_true c45
                        clear c45
                        replace H := Option.bind_eq_some_iff.mp H
                        obtain ⟨t876, A460, H⟩ := H
                        replace H : (if t876 ≥ t831 then (if (t873.length : Int) = 32 then ((impl_WorkOf.f t831).bind fun bt877 => (if 0 ≤ (IntKind.u64.wrap (t831)) then (some (bt877.2 == (shl .i64 1 (IntKind.u64.wrap (t831))))) else (none))) else (none)) else (none)) = some r := H
                        have A46 := Aside0.mk A460
                        clear A460
                        by_cases c47 : t876 ≥ t831
                        · rw [if_pos c47] at H
                          have c47b0 : decide (t831 ≤ t876) = true := decide_eq_true c47
                          clear c47
                          by_cases c48 : (t873.length : Int) = 32
                          · rw [if_pos c48] at H
                            have c48b0 : ((t873.length : Int) == 32) = true := beq_iff_eq.mpr c48
                            have c48b1 : ((t873.length : Int) != 32) = false := bne_eq_false_iff_eq.mpr c48
                            clear c48
                            replace H := Option.bind_eq_some_iff.mp H
                            obtain ⟨⟨t877, t878⟩, A490, H⟩ := H
                            replace H : (if 0 ≤ (IntKind.u64.wrap (t831)) then (some (t878 == (shl .i64 1 (IntKind.u64.wrap (t831))))) else (none)) = some r := H
                            have A49 := Aside0.mk A490
                            clear A490
                            obtain ⟨ji50, hji50⟩ : ∃ j_ : Int, (IntKind.u64.wrap (t831)) = j_ := ⟨_, rfl⟩
                            replace H : (if 0 ≤ (ji50) then (some (t878 == (shl .i64 1 (ji50)))) else (none)) = some r := by first | (rw [hji50] at H; exact H) | (simp only [hji50] at H ⊢; exact H)
                            (try rw [hji50] at A41)
                            (try rw [hji50] at A43)
                            (try rw [hji50] at A46)
                            (try rw [hji50] at A49)
                            by_cases c51 : 0 ≤ (ji50)
                            · rw [if_pos c51] at H
                              have c51b0 := eq_true c51
                              have c51b1 : decide (0 ≤ (ji50)) = true := decide_eq_true c51
                              clear c51
                              obtain ⟨ji52, hji52⟩ : ∃ j_ : Int, (shl .i64 1 (ji50)) = j_ := ⟨_, rfl⟩
                              replace H : (some (t878 == (ji52))) = some r := by first | (rw [hji52] at H; exact H) | (simp only [hji52] at H ⊢; exact H)
                              (try rw [hji52] at A41)
                              (try rw [hji52] at A43)
                              (try rw [hji52] at A46)
                              (try rw [hji52] at A49)
                              have hji52_ : (IntKind.i64.wrap (1 * 2 ^ min (ji50).toNat 64)) = ji52 := hji52
                              have hji52z : (ji50) ≤ 64 → (IntKind.i64.wrap (1 * 2 ^ (ji50).toNat)) = ji52 := shl_small hji52
                              have hji52u : (IntKind.i64.wrap (2 ^ min (ji50).toNat 64)) = ji52 := by have h_ := hji52_; rw [Int.one_mul] at h_; exact h_
                              have hji52v : (ji50) ≤ 64 → (IntKind.i64.wrap (2 ^ (ji50).toNat)) = ji52 := fun hle_ => by have h_ := hji52z hle_; rw [Int.one_mul] at h_; exact h_
                              have hji52y : (wrap64 (1 * 2 ^ min (ji50).toNat 64)) = ji52 := (i64_w _).symm.trans hji52_
                              have hji52x : (ji50) ≤ 64 → (wrap64 (1 * 2 ^ (ji50).toNat)) = ji52 := fun h_ => (i64_w _).symm.trans (hji52z h_)
                              obtain rfl := Option.some.inj H
                              have hcz53_0 : wr.cell? ⟨gb838, 0, none⟩ = some (.int .i64 t836) := (blk_cell BK838.out 0).trans (by first | rfl | (simp only [*] <;> rfl))
                              have hcz53_1 : wr.cell? ⟨gb838, 1, none⟩ = some (.int .i64 t837) := (blk_cell BK838.out 1).trans (by first | rfl | (simp only [*] <;> rfl))
                              have hfz53_0 := blk_frozen BK838.out 0
                              have hfz53_1 := blk_frozen BK838.out 1
                              go_wp2_with (first | ((with_reducible refine gate_dst (N := 72) rfl ?_); (try (refine gate_guard (by rfl) ?_; dsimp only)); refine Kd.R_lit (Kd.int .u8) _ 5 ?hg (N := 72) ?hd (xs := ([] : List Int)) (inner := []) (ok := fun _ => True) (okp := fun _ => True) ?hr ?hp (fun _ hk => hk) trivial (Below.refl _ _) (Nat.le_refl _) (by simp) ?_; (case hd => rfl); (case hg => rfl); (case hr => first | (go_simp; done) | (go_simp; rfl)); (case hp => exact (Reps.none _ _)); intro v861 w54 ho55 hb hg_ hnew_; clear hg_ hnew_; (first | rw [← Ny860.out] at ho55 | (simp only [Int.reduceToNat] at ho55; rw [← Ny860.out] at ho55)); have n0_ := Aside0.mk (Kd.R_elder' (by (with_reducible repeat (first | apply Kd.R_alloc | apply Kd.R_drewN | apply Kd.R_drew)); exact HO_3.out) (Kd.R_base ho55) hb); have n1_ := Aside0.mk (Kd.R_lower (Kd.R_new' ho55 (Kd.R_lt (by (with_reducible repeat (first | apply Kd.R_alloc | apply Kd.R_drewN | apply Kd.R_drew)); exact HO_3.out))) (below_size (by repeat (first | (with_reducible first | exact HB.out | apply below_alloc | apply pw_below_drewN | apply below_drew1 | refine below_set ?_ GE838.out) | exact HB.out)))); have n2_ := Aside0.mk (blk_below (g := gb838) (o := .cells #[.int .i64 t836, .int .i64 t837] 45 (0, 0)) (by (with_reducible repeat (first | refine blk_drewN ?_ _ | refine blk_drew ?_ | refine blk_alloc ?_ _)); exact BK838.out) hb); have n3_ := Aside0.mk (below_step (by repeat (first | (with_reducible first | exact HB.out | apply below_alloc | apply pw_below_drewN | apply below_drew1 | refine below_set ?_ GE838.out) | exact HB.out)) hb); clear HO_3; clear BK838; clear HB; have HO_3 := n0_; have HO862 := n1_; have BK838 := n2_; have HB := n3_; clear n0_ n1_ n2_ n3_; clear hb ho55) | ((with_reducible refine gate_builtin (b := .append) (xs := #[.tmp 72, .tmp 73]) rfl ?_); (try (refine gate_guard (by rfl) ?_; dsimp only)); at_builtin; refine Kd.R_append_rows (Kd.int .u8) (w0 := w) w.heap.size rfl (.tmp 72) (.tmp 73) 28 5 (.int .u8 0) 1 rfl Try.underlying28 info5 rfl (by decide) (by omega) v861 y860 t830 _ _ _ (fun k_ => some k_ ≠ (.slice Ao8 t830.length co8 : Value).ownBlock) (fun _ => False) rfl rfl ?aO ?aR (fun _ _ h => h) (fun _ h => h.elim) ?aF ?aB ?aS ?aL ?_; (case aR => repeat (first | exact (Kd.R_reads' HO_3.out).2.2 | (with_reducible refine Kd.C_alloc ?_ _) | (with_reducible refine Kd.C_drewN ?_ _) | (with_reducible refine Kd.C_drew ?_))); (case aB => exact (by repeat (first | (with_reducible first | exact HB.out | apply below_alloc | apply pw_below_drewN | apply below_drew1 | refine below_set ?_ GE838.out) | exact HB.out))); (case aF => exact (fun k_ hk => Kd.fresh' (Kd.R_lt (by (with_reducible repeat (first | apply Kd.R_alloc | apply Kd.R_drewN | apply Kd.R_drew)); exact HO_3.out)) k_ hk)); (case aO => exact (by (with_reducible repeat (first | apply Kd.R_alloc | apply Kd.R_drewN | apply Kd.R_drew)); exact Kd.R_mono HO862.out (fun _ hk => hk.2))); (case aS => exact (below_size (by repeat (first | (with_reducible first | exact HB.out | apply below_alloc | apply pw_below_drewN | apply below_drew1 | refine below_set ?_ GE838.out) | exact HB.out)))); (case aL => have := LMc40.out; omega); intro v864 w56 ho hb hg hat; rw [← Ny863.out] at ho; have n0_ := Aside0.mk (Kd.R_after (ok := (fun _ => True)) (by (with_reducible repeat (first | apply Kd.R_alloc | apply Kd.R_drewN | apply Kd.R_drew)); exact HO_3.out) hg hat); have n1_ := Aside0.mk (blk_grown (g := gb838) (o := .cells #[.int .i64 t836, .int .i64 t837] 45 (0, 0)) (by (with_reducible repeat (first | refine blk_drewN ?_ _ | refine blk_drew ?_ | refine blk_alloc ?_ _)); exact BK838.out) hg (Kd.R_ne HO862.out BK838.out (by decide))); have n2_ := Aside0.mk (hb); have n3_ := Aside0.mk (ho); clear HO_3; clear BK838; clear HB; clear HO862; have HO_3 := n0_; have BK838 := n1_; have HB := n2_; have HO865 := n3_; clear n0_ n1_ n2_ n3_; clear ho hb hg hat) | ((with_reducible refine gate_callee (f := 56) rfl ?_); refine goesL_ (some 76) rfl rfl Try.func56 (by kernel_rfl) rfl #[.int .i64 x8_5] rfl (by (try simp only [List.map_toArray, List.map_cons, List.map_nil]); first | done | rfl | (simp only [List.length_drop, List.length_take]; rfl)) ?_; (with_reducible refine (impl_PutNumber.calls k2 x8_5 t866 t867 _ A41.out).mono ?_); rintro e w57 ⟨v868, rfl, ho0, hb⟩; refine ⟨_, rfl, ?_⟩; have n0_ := Aside0.mk (Kd.R_elder' (by (with_reducible repeat (first | apply Kd.R_alloc | apply Kd.R_drewN | apply Kd.R_drew)); exact HO_3.out) (Kd.R_base ho0) hb); have n1_ := Aside0.mk (Kd.R_elder' (by (with_reducible repeat (first | apply Kd.R_alloc | apply Kd.R_drewN | apply Kd.R_drew)); exact HO865.out) (Kd.R_base ho0) hb); have n2_ := Aside0.mk (Kd.R_lower (Kd.R_new' (Kd.R_new' ho0 (Kd.R_lt (by (with_reducible repeat (first | apply Kd.R_alloc | apply Kd.R_drewN | apply Kd.R_drew)); exact HO_3.out))) (Kd.R_lt (by (with_reducible repeat (first | apply Kd.R_alloc | apply Kd.R_drewN | apply Kd.R_drew)); exact HO865.out))) (below_size (by repeat (first | (with_reducible first | exact HB.out | apply below_alloc | apply pw_below_drewN | apply below_drew1 | refine below_set ?_ GE838.out) | exact HB.out)))); have n3_ := Aside0.mk (blk_below (g := gb838) (o := .cells #[.int .i64 t836, .int .i64 t837] 45 (0, 0)) (by (with_reducible repeat (first | refine blk_drewN ?_ _ | refine blk_drew ?_ | refine blk_alloc ?_ _)); exact BK838.out) hb); have n4_ := Aside0.mk (below_step (by repeat (first | (with_reducible first | exact HB.out | apply below_alloc | apply pw_below_drewN | apply below_drew1 | refine below_set ?_ GE838.out) | exact HB.out)) hb); clear HO_3; clear HO865; clear BK838; clear HB; have HO_3 := n0_; have HO865 := n1_; have HO869 := n2_; have BK838 := n3_; have HB := n4_; clear n0_ n1_ n2_ n3_ n4_; (try clear hb); (try clear hb2); (try clear hk); (try clear hi); (try clear ho0); obtain ⟨Ao59, co59, eo59⟩ := Kd.R_slice HO869.out; subst eo59) | ((with_reducible refine gate_builtin (b := .append) (xs := #[.tmp 74, .tmp 77]) rfl ?_); (try (refine gate_guard (by rfl) ?_; dsimp only)); at_builtin; refine Kd.R_append_rows (Kd.int .u8) (w0 := w) w.heap.size rfl (.tmp 74) (.tmp 77) 28 5 (.int .u8 0) 1 rfl Try.underlying28 info5 rfl (by decide) (by omega) v864 y863 t867 _ _ _ (fun k_ => some k_ ≠ (.slice Ao8 t830.length co8 : Value).ownBlock ∧ some k_ ≠ (.slice Ao59 t867.length co59 : Value).ownBlock) (fun _ => False) rfl rfl ?aO ?aR (fun _ _ h => h) (fun _ h => h.elim) ?aF ?aB ?aS ?aL ?_; (case aR => repeat (first | exact (Kd.R_reads' HO869.out).2.2 | (with_reducible refine Kd.C_alloc ?_ _) | (with_reducible refine Kd.C_drewN ?_ _) | (with_reducible refine Kd.C_drew ?_))); (case aB => exact (by repeat (first | (with_reducible first | exact HB.out | apply below_alloc | apply pw_below_drewN | apply below_drew1 | refine below_set ?_ GE838.out) | exact HB.out))); (case aF => exact (fun k_ hk => ⟨Kd.fresh' (Kd.R_lt (by (with_reducible repeat (first | apply Kd.R_alloc | apply Kd.R_drewN | apply Kd.R_drew)); exact HO_3.out)) k_ hk, Kd.fresh' (Kd.R_lt (by (with_reducible repeat (first | apply Kd.R_alloc | apply Kd.R_drewN | apply Kd.R_drew)); exact HO869.out)) k_ hk⟩)); (case aO => exact (by (with_reducible repeat (first | apply Kd.R_alloc | apply Kd.R_drewN | apply Kd.R_drew)); exact HO865.out)); (case aS => exact (below_size (by repeat (first | (with_reducible first | exact HB.out | apply below_alloc | apply pw_below_drewN | apply below_drew1 | refine below_set ?_ GE838.out) | exact HB.out)))); (case aL => have := LMc42.out; omega); intro v871 w58 ho hb hg hat; rw [← Ny870.out] at ho; have n0_ := Aside0.mk (Kd.R_after (ok := (fun k_ => some k_ ≠ (.slice Ao59 t867.length co59 : Value).ownBlock)) (by (with_reducible repeat (first | apply Kd.R_alloc | apply Kd.R_drewN | apply Kd.R_drew)); exact Kd.R_mono HO_3.out (fun _ hk => ⟨hk.2, hk.1.2⟩)) hg hat); have n1_ := Aside0.mk (blk_grown (g := gb838) (o := .cells #[.int .i64 t836, .int .i64 t837] 45 (0, 0)) (by (with_reducible repeat (first | refine blk_drewN ?_ _ | refine blk_drew ?_ | refine blk_alloc ?_ _)); exact BK838.out) hg (Kd.R_ne HO865.out BK838.out (by decide))); have n2_ := Aside0.mk (Kd.R_after (ok := (fun k_ => some k_ ≠ (.slice Ao8 t830.length co8 : Value).ownBlock)) (by (with_reducible repeat (first | apply Kd.R_alloc | apply Kd.R_drewN | apply Kd.R_drew)); exact Kd.R_mono HO869.out (fun _ hk => ⟨hk.1.2, hk.2⟩)) hg hat); have n3_ := Aside0.mk (hb); have n4_ := Aside0.mk (ho); clear HO_3; clear BK838; clear HO869; clear HB; clear HO865; have HO_3 := n0_; have BK838 := n1_; have HO869 := n2_; have HB := n3_; have HO872 := n4_; clear n0_ n1_ n2_ n3_ n4_; clear ho hb hg hat; obtain ⟨Ao60, co60, eo60⟩ := Kd.R_slice HO872.out; subst eo60) | ((with_reducible refine gate_callee (f := 29) rfl ?_); refine goesL_ (some 79) rfl rfl Try.func29 (by kernel_rfl) rfl #[.slice Ao60 y870.length co60] rfl (by (try simp only [List.map_toArray, List.map_cons, List.map_nil]); first | done | rfl | (simp only [List.length_drop, List.length_take]; rfl)) ?_; (with_reducible refine (impl_Digest.calls (fun k_ => some k_ = (.slice Ao60 y870.length co60 : Value).ownBlock) _ _ y870 t873 _ ?side1 A43.out).mono ?_); (case side1 => exact Kd.R_V (Kd.R_tight rfl (Kd.R_types (HO872.out) BK838.out (by decide)))); rintro e w61 ⟨v874, rfl, ho0, hb⟩; refine ⟨_, rfl, ?_⟩; have n0_ := Aside0.mk (Kd.R_elder' (by (with_reducible repeat (first | apply Kd.R_alloc | apply Kd.R_drewN | apply Kd.R_drew)); exact HO_3.out) (Kd.R_base ho0) hb); have n1_ := Aside0.mk (Kd.R_elder' (by (with_reducible repeat (first | apply Kd.R_alloc | apply Kd.R_drewN | apply Kd.R_drew)); exact HO869.out) (Kd.R_base ho0) hb); have n2_ := Aside0.mk (Kd.R_elder' (by (with_reducible repeat (first | apply Kd.R_alloc | apply Kd.R_drewN | apply Kd.R_drew)); exact HO872.out) (Kd.R_base ho0) hb); have n3_ := Aside0.mk (Kd.R_lower (Kd.R_new' (Kd.R_new' (Kd.R_new' (Kd.R_mono (ok' := fun k_ => True) ho0 (fun _ hk_ => trivial)) (Kd.R_lt (by (with_reducible repeat (first | apply Kd.R_alloc | apply Kd.R_drewN | apply Kd.R_drew)); exact HO_3.out))) (Kd.R_lt (by (with_reducible repeat (first | apply Kd.R_alloc | apply Kd.R_drewN | apply Kd.R_drew)); exact HO869.out))) (Kd.R_lt (by (with_reducible repeat (first | apply Kd.R_alloc | apply Kd.R_drewN | apply Kd.R_drew)); exact HO872.out))) (below_size (by repeat (first | (with_reducible first | exact HB.out | apply below_alloc | apply pw_below_drewN | apply below_drew1 | refine below_set ?_ GE838.out) | exact HB.out)))); have n4_ := Aside0.mk (blk_below (g := gb838) (o := .cells #[.int .i64 t836, .int .i64 t837] 45 (0, 0)) (by (with_reducible repeat (first | refine blk_drewN ?_ _ | refine blk_drew ?_ | refine blk_alloc ?_ _)); exact BK838.out) hb); have n5_ := Aside0.mk (below_step (by repeat (first | (with_reducible first | exact HB.out | apply below_alloc | apply pw_below_drewN | apply below_drew1 | refine below_set ?_ GE838.out) | exact HB.out)) hb); clear HO_3; clear HO869; clear HO872; clear BK838; clear HB; have HO_3 := n0_; have HO869 := n1_; have HO872 := n2_; have HO875 := n3_; have BK838 := n4_; have HB := n5_; clear n0_ n1_ n2_ n3_ n4_ n5_; (try clear hb); (try clear hb2); (try clear hk); (try clear hi); (try clear ho0); obtain ⟨Ao62, co62, eo62⟩ := Kd.R_slice HO875.out; subst eo62) | (go_at_call 55; (with_reducible refine (impl_ZerosOf.calls k2 _ _ t873 t876 _ ?side1 ?side2 A46.out).mono ?_); (case side1 => repeat (first | exact (Kd.R_reads' HO875.out).2.2 | (with_reducible refine Kd.C_alloc ?_ _) | (with_reducible refine Kd.C_drewN ?_ _) | (with_reducible refine Kd.C_drew ?_))); (case side2 => exact (Kd.R_reads' HO875.out).2.1); rintro e w' ⟨rfl, ⟨nd, rfl⟩⟩) | (go_at_call 57; (with_reducible refine (impl_WorkOf.calls t831 t877 t878 _ A49.out).mono ?_); rintro e w63 ⟨rfl, hb⟩; have n0_ := Aside0.mk (Kd.R_below (by (with_reducible repeat (first | apply Kd.R_alloc | apply Kd.R_drewN | apply Kd.R_drew)); exact HO_3.out) hb); have n1_ := Aside0.mk (Kd.R_below (by (with_reducible repeat (first | apply Kd.R_alloc | apply Kd.R_drewN | apply Kd.R_drew)); exact HO869.out) hb); have n2_ := Aside0.mk (Kd.R_below (by (with_reducible repeat (first | apply Kd.R_alloc | apply Kd.R_drewN | apply Kd.R_drew)); exact HO872.out) hb); have n3_ := Aside0.mk (Kd.R_below (by (with_reducible repeat (first | apply Kd.R_alloc | apply Kd.R_drewN | apply Kd.R_drew)); exact HO875.out) hb); have n4_ := Aside0.mk (blk_below (g := gb838) (o := .cells #[.int .i64 t836, .int .i64 t837] 45 (0, 0)) (by (with_reducible repeat (first | refine blk_drewN ?_ _ | refine blk_drew ?_ | refine blk_alloc ?_ _)); exact BK838.out) hb); have n5_ := Aside0.mk (below_step (by repeat (first | (with_reducible first | exact HB.out | apply below_alloc | apply pw_below_drewN | apply below_drew1 | refine below_set ?_ GE838.out) | exact HB.out)) hb); clear HO_3; clear HO869; clear HO872; clear HO875; clear BK838; clear HB; have HO_3 := n0_; have HO869 := n1_; have HO872 := n2_; have HO875 := n3_; have BK838 := n4_; have HB := n5_; clear n0_ n1_ n2_ n3_ n4_ n5_; (try clear hb); (try clear hb2); (try clear hk); (try clear hi)))
                              go_ret
                              exact ⟨by first | rfl | (simp [errW_none, errW_some] <;> rfl) | (simp only [← hji50, ← hji52]; first | rfl | (simp [errW_none, errW_some] <;> rfl)) | (simp [*, errW_none, errW_some] <;> rfl), by repeat (first | (with_reducible first | exact HB.out | apply below_alloc | apply pw_below_drewN | apply below_drew1 | refine below_set ?_ GE838.out) | exact HB.out)⟩
                            · rw [if_neg c51] at H
                              exact absurd H (by simp)
                          · rw [if_neg c48] at H
                            exact absurd H (by simp)
                        · rw [if_neg c47] at H
                          exact absurd H (by simp)
                      · rw [if_neg c45] at H
                        exact absurd H (by simp)
                    · rw [if_neg c44] at H
                      exact absurd H (by simp)
                  · rw [if_neg c42] at H
                    exact absurd H (by simp)
                · rw [if_neg c40] at H
                  exact absurd H (by simp)

/-- THE ONE PURE STATEMENT of laws_FnNonces: yours. -/
def laws_FnNonces.Pure : Prop := ∀ (l0 : List Int), l0.length ≤ maxLen → l0.length * 1 ≤ 140737488351232 → (∀ x ∈ l0, (Lit.int .u8 x).wf = true) → ∃ k, laws_FnNonces.f k l0 = some true
theorem laws_FnNonces.walk (P : laws_FnNonces.Pure) (a0 : Option Addr) (len0 cap0 : Nat) (z0 : List Int) (w : World) (w0 : (a0 = none ∧ len0 = 0 ∧ cap0 = 0 ∧ z0 = []) ∨ ∃ x, a0 = some x ∧ len0 ≤ cap0 ∧ cap0 ≤ maxLen ∧ z0.length = cap0 ∧ (∀ i, i < z0.length → w.cell? (x.add i) = some (.int .u8 (z0.getD i 0))) ∧ ∀ n ∈ z0, (Lit.int .u8 n).wf = true) (y0 : len0 * 1 ≤ 140737488351232) :
    Calls Try.prog 15 #[.slice a0 len0 cap0] w fun e w' => e = .returned (.bool true) ∧ Below w.heap.size w w' := by
  obtain ⟨l0, rfl, hr0, hm0, hw0, hc0⟩ := ReadsInt.ofRowC w0
  obtain ⟨k, h⟩ := P l0 hm0 y0 hw0
  refine (laws_FnNonces.calls k _ _ l0 true w (Kd.C_of_reads (d := (0 : Int)) (h1 := fun _ => rfl) hr0) hc0 h).mono ?_
  rintro e w' ⟨rfl, hd⟩
  exact ⟨rfl, hd⟩

end Go.Proofs.Ytbeigbkkecboiaa.S
