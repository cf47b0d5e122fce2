/- Each function of the program that stands below is a plain Lean function, and the call of the program comes to what that function says. No condition beyond those in the statements. -/
import Derived.Test.YtmmhghddldhogaaSx0
import Derived.Test.YtmmhghddldhogaaSxLawsHeldHeadY
namespace Go.Proofs.Ytmmhghddldhogaa.S
open Go.RowKit Go.Proofs.YtmmhghddldhogaaW.PrintWords Go.Proofs.YtmmhghddldhogaaW.PrintLast Go.Proofs.YtmmhghddldhogaaW.PrintMore
attribute [local go_sem] max2_int min2_int max_two min_two max_three min_three max_four min_four   -- for this text's walks alone
set_option linter.unusedVariables false
set_option linter.unusedSimpArgs false

/-! ### laws_heldHeadResult: function 72 -/
def laws_heldHeadResult.f (k : Nat) (a0_0 : Int) (l0_1 : List Int) (a0_2 : Int) (a0_3 : Int) (a0_4 : Int) (l0_5 : List Int) (a0_6 : Int) (a1 : Int) : Option (Int) := (laws_heldHead.f k l0_1 a0_2 a0_3 a0_4 l0_5 a0_6 a1).bind fun t810 => (if t810 < 0 then (some (-1)) else (some t810))
theorem laws_heldHeadResult.mono : ∀ a0 a1 a2 a3 a4 a5 a6 a7 k, LeO (laws_heldHeadResult.f k a0 a1 a2 a3 a4 a5 a6 a7) (laws_heldHeadResult.f (k + 1) a0 a1 a2 a3 a4 a5 a6 a7) := by
  intro a0 a1 a2 a3 a4 a5 a6 a7 k
  unfold laws_heldHeadResult.f
  repeat' first
      | (with_reducible exact laws_heldHead.mono _ _ _ _ _ _ _ _)
      | (with_reducible exact LeO.refl _)
      | (with_reducible exact LeO.none _)
      | (with_reducible refine LeO.ite ?_ ?_)
      | (with_reducible refine LeO.bind ?_ (fun _ => ?_))
      | exact laws_heldHead.mono _ _ _ _ _ _ _ _
      | exact LeO.none _
      | refine LeO.ite ?_ ?_
      | refine LeO.bind ?_ (fun _ => ?_)
set_option maxHeartbeats 8000000 in
set_option maxRecDepth 100000 in
theorem laws_heldHeadResult.calls (k : Nat) (a0_0 : Int) (A0_1 : Option Addr) (c0_1 : Nat) (l0_1 : List Int) (a0_2 : Int) (a0_3 : Int) (a0_4 : Int) (A0_5 : Option Addr) (c0_5 : Nat) (l0_5 : List Int) (a0_6 : Int) (a1 : Int) (r : Int) (w : World) (hr0_1 : Kd.C (Kd.int .u8) w A0_1 l0_1.length l0_1) (hc0_1 : l0_1.length ≤ c0_1) (hr0_5 : Kd.C (Kd.int .u8) w A0_5 l0_5.length l0_5) (hc0_5 : l0_5.length ≤ c0_5) (h : laws_heldHeadResult.f k a0_0 l0_1 a0_2 a0_3 a0_4 l0_5 a0_6 a1 = some r) :
    Calls Try.prog 72 #[.agg #[.int .i64 a0_0, .slice A0_1 l0_1.length c0_1, .int .i64 a0_2, .int .i64 a0_3, .int .i64 a0_4, .slice A0_5 l0_5.length c0_5, .int .i64 a0_6], .int .i64 a1] w fun e w' => e = .returned (.int .i64 r) ∧ Below w.heap.size w w' := by
  have hu81 := Try.underlying81
  have hu33 := Try.underlying33
  have HR0_1 := Aside0.mk hr0_1
  have HC0_1 := Aside0.mk hc0_1
  clear hr0_1 hc0_1
  have HR0_5 := Aside0.mk hr0_5
  have HC0_5 := Aside0.mk hc0_5
  clear hr0_5 hc0_5
  have HB := Aside0.mk (Below.refl w.heap.size w)
  have H : ((laws_heldHead.f k l0_1 a0_2 a0_3 a0_4 l0_5 a0_6 a1).bind fun t810 => (if t810 < 0 then (some (-1)) else (some t810))) = some r := h
  clear h
  replace H := Option.bind_eq_some_iff.mp H
  obtain ⟨t810, A30, H⟩ := H
  replace H : (if t810 < 0 then (some (-1)) else (some t810)) = some r := H
  have A3 := Aside0.mk A30
  clear A30
  by_cases c4 : t810 < 0
  · rw [if_pos c4] at H
    have c4b0 : decide (t810 < 0) = true := decide_eq_true c4
    clear c4
    obtain rfl := Option.some.inj H
    go_enter Try.func72, Try.ntmps72
    go_wp2_with (first | ((with_reducible refine gate_dst (N := 2) rfl ?_); refine box_event ?hg (N := 2) ?hd (cs := #[.int .i64 a0_0, .slice A0_1 l0_1.length c0_1, .int .i64 a0_2, .int .i64 a0_3, .int .i64 a0_4, .slice A0_5 l0_5.length c0_5, .int .i64 a0_6]) (t := 81) ?hr ?_; (case hd => rfl); (case hg => rfl); (case hr => first | (go_simp; done) | (go_simp; rfl)); intro gb809 hg w5 hbox hb; have n0_ := Aside0.mk (below_step (by repeat (first | (with_reducible first | exact HB.out | apply below_alloc | apply pw_below_drewN | apply below_drew1) | exact HB.out)) hb); have n1_ := Aside0.mk (hbox); have n2_ := Aside0.mk ((by rw [hg]; exact (below_size (by repeat (first | (with_reducible first | exact HB.out | apply below_alloc | apply pw_below_drewN | apply below_drew1) | exact HB.out))) : w.heap.size ≤ gb809)); have n3_ := Aside0.mk ((by rw [hg]; exact (below_size (by repeat (first | (with_reducible first | exact HB.out | apply below_alloc | apply pw_below_drewN | apply below_drew1) | exact HB.out))) : w.heap.size ≤ gb809)); clear HB; have HB := n0_; have BK809 := n1_; have GW809 := n2_; have GE809 := n3_; clear n0_ n1_ n2_ n3_; clear hb hbox hg; have hcz6_0 : w5.cell? ⟨gb809, 0, none⟩ = some (.int .i64 a0_0) := (blk_cell BK809.out 0).trans (by first | rfl | (simp only [*] <;> rfl)); have hcz6_1 : w5.cell? ⟨gb809, 1, none⟩ = some (.slice A0_1 l0_1.length c0_1) := (blk_cell BK809.out 1).trans (by first | rfl | (simp only [*] <;> rfl)); have hcz6_2 : w5.cell? ⟨gb809, 2, none⟩ = some (.int .i64 a0_2) := (blk_cell BK809.out 2).trans (by first | rfl | (simp only [*] <;> rfl)); have hcz6_3 : w5.cell? ⟨gb809, 3, none⟩ = some (.int .i64 a0_3) := (blk_cell BK809.out 3).trans (by first | rfl | (simp only [*] <;> rfl)); have hcz6_4 : w5.cell? ⟨gb809, 4, none⟩ = some (.int .i64 a0_4) := (blk_cell BK809.out 4).trans (by first | rfl | (simp only [*] <;> rfl)); have hcz6_5 : w5.cell? ⟨gb809, 5, none⟩ = some (.slice A0_5 l0_5.length c0_5) := (blk_cell BK809.out 5).trans (by first | rfl | (simp only [*] <;> rfl)); have hcz6_6 : w5.cell? ⟨gb809, 6, none⟩ = some (.int .i64 a0_6) := (blk_cell BK809.out 6).trans (by first | rfl | (simp only [*] <;> rfl)); have hfz6_0 := blk_frozen BK809.out 0; have hfz6_1 := blk_frozen BK809.out 1; have hfz6_2 := blk_frozen BK809.out 2; have hfz6_3 := blk_frozen BK809.out 3; have hfz6_4 := blk_frozen BK809.out 4; have hfz6_5 := blk_frozen BK809.out 5; have hfz6_6 := blk_frozen BK809.out 6) | ((with_reducible refine gate_callee (f := 120) rfl ?_); refine goesL_ (some 8) rfl rfl Try.func120 (by kernel_rfl) rfl #[.agg #[.slice A0_1 l0_1.length c0_1, .int .i64 a0_2, .int .i64 a0_3, .int .i64 a0_4, .slice A0_5 l0_5.length c0_5, .int .i64 a0_6], .int .i64 a1] rfl (by (try simp only [List.map_toArray, List.map_cons, List.map_nil]); first | done | rfl | (simp only [List.length_drop, List.length_take]; rfl)) ?_; (with_reducible refine (laws_heldHead.calls k _ _ l0_1 a0_2 a0_3 a0_4 _ _ l0_5 a0_6 a1 t810 _ ?side1 ?side2 ?side3 ?side4 A3.out).mono ?_); (case side1 => repeat (first | exact (Kd.C_below HR0_1.out HB.out) | (with_reducible refine Kd.C_alloc ?_ _) | (with_reducible refine Kd.C_drewN ?_ _) | (with_reducible refine Kd.C_drew ?_))); (case side2 => exact HC0_1.out); (case side3 => repeat (first | exact (Kd.C_below HR0_5.out HB.out) | (with_reducible refine Kd.C_alloc ?_ _) | (with_reducible refine Kd.C_drewN ?_ _) | (with_reducible refine Kd.C_drew ?_))); (case side4 => exact HC0_5.out); rintro e w7 ⟨rfl, hb⟩; refine ⟨_, rfl, ?_⟩; have n0_ := Aside0.mk (blk_below (g := gb809) (o := .cells #[.int .i64 a0_0, .slice A0_1 l0_1.length c0_1, .int .i64 a0_2, .int .i64 a0_3, .int .i64 a0_4, .slice A0_5 l0_5.length c0_5, .int .i64 a0_6] 81 (0, 0)) (by (with_reducible repeat (first | refine blk_drewN ?_ _ | refine blk_drew ?_ | refine blk_alloc ?_ _)); exact BK809.out) hb); have n1_ := Aside0.mk (below_step (by repeat (first | (with_reducible first | exact HB.out | apply below_alloc | apply pw_below_drewN | apply below_drew1 | refine below_set ?_ GE809.out) | exact HB.out)) hb); clear BK809; clear HB; have BK809 := n0_; have HB := n1_; clear n0_ n1_; (try clear hb); (try clear hb2); (try clear hk); (try clear hi)))
    go_ret
    exact ⟨by first | rfl | (simp [errW_none, errW_some] <;> rfl) | (simp [*, errW_none, errW_some] <;> rfl), by repeat (first | (with_reducible first | exact HB.out | apply below_alloc | apply pw_below_drewN | apply below_drew1 | refine below_set ?_ GE809.out) | exact HB.out)⟩
  · rw [if_neg c4] at H
    have c4b0 : decide (t810 < 0) = false := decide_eq_false c4
    clear c4
    obtain rfl := Option.some.inj H
    go_enter Try.func72, Try.ntmps72
    go_wp2_with (first | ((with_reducible refine gate_dst (N := 2) rfl ?_); refine box_event ?hg (N := 2) ?hd (cs := #[.int .i64 a0_0, .slice A0_1 l0_1.length c0_1, .int .i64 a0_2, .int .i64 a0_3, .int .i64 a0_4, .slice A0_5 l0_5.length c0_5, .int .i64 a0_6]) (t := 81) ?hr ?_; (case hd => rfl); (case hg => rfl); (case hr => first | (go_simp; done) | (go_simp; rfl)); intro gb809 hg w8 hbox hb; have n0_ := Aside0.mk (below_step (by repeat (first | (with_reducible first | exact HB.out | apply below_alloc | apply pw_below_drewN | apply below_drew1) | exact HB.out)) hb); have n1_ := Aside0.mk (hbox); have n2_ := Aside0.mk ((by rw [hg]; exact (below_size (by repeat (first | (with_reducible first | exact HB.out | apply below_alloc | apply pw_below_drewN | apply below_drew1) | exact HB.out))) : w.heap.size ≤ gb809)); have n3_ := Aside0.mk ((by rw [hg]; exact (below_size (by repeat (first | (with_reducible first | exact HB.out | apply below_alloc | apply pw_below_drewN | apply below_drew1) | exact HB.out))) : w.heap.size ≤ gb809)); clear HB; have HB := n0_; have BK809 := n1_; have GW809 := n2_; have GE809 := n3_; clear n0_ n1_ n2_ n3_; clear hb hbox hg; have hcz9_0 : w8.cell? ⟨gb809, 0, none⟩ = some (.int .i64 a0_0) := (blk_cell BK809.out 0).trans (by first | rfl | (simp only [*] <;> rfl)); have hcz9_1 : w8.cell? ⟨gb809, 1, none⟩ = some (.slice A0_1 l0_1.length c0_1) := (blk_cell BK809.out 1).trans (by first | rfl | (simp only [*] <;> rfl)); have hcz9_2 : w8.cell? ⟨gb809, 2, none⟩ = some (.int .i64 a0_2) := (blk_cell BK809.out 2).trans (by first | rfl | (simp only [*] <;> rfl)); have hcz9_3 : w8.cell? ⟨gb809, 3, none⟩ = some (.int .i64 a0_3) := (blk_cell BK809.out 3).trans (by first | rfl | (simp only [*] <;> rfl)); have hcz9_4 : w8.cell? ⟨gb809, 4, none⟩ = some (.int .i64 a0_4) := (blk_cell BK809.out 4).trans (by first | rfl | (simp only [*] <;> rfl)); have hcz9_5 : w8.cell? ⟨gb809, 5, none⟩ = some (.slice A0_5 l0_5.length c0_5) := (blk_cell BK809.out 5).trans (by first | rfl | (simp only [*] <;> rfl)); have hcz9_6 : w8.cell? ⟨gb809, 6, none⟩ = some (.int .i64 a0_6) := (blk_cell BK809.out 6).trans (by first | rfl | (simp only [*] <;> rfl)); have hfz9_0 := blk_frozen BK809.out 0; have hfz9_1 := blk_frozen BK809.out 1; have hfz9_2 := blk_frozen BK809.out 2; have hfz9_3 := blk_frozen BK809.out 3; have hfz9_4 := blk_frozen BK809.out 4; have hfz9_5 := blk_frozen BK809.out 5; have hfz9_6 := blk_frozen BK809.out 6) | ((with_reducible refine gate_callee (f := 120) rfl ?_); refine goesL_ (some 8) rfl rfl Try.func120 (by kernel_rfl) rfl #[.agg #[.slice A0_1 l0_1.length c0_1, .int .i64 a0_2, .int .i64 a0_3, .int .i64 a0_4, .slice A0_5 l0_5.length c0_5, .int .i64 a0_6], .int .i64 a1] rfl (by (try simp only [List.map_toArray, List.map_cons, List.map_nil]); first | done | rfl | (simp only [List.length_drop, List.length_take]; rfl)) ?_; (with_reducible refine (laws_heldHead.calls k _ _ l0_1 a0_2 a0_3 a0_4 _ _ l0_5 a0_6 a1 t810 _ ?side1 ?side2 ?side3 ?side4 A3.out).mono ?_); (case side1 => repeat (first | exact (Kd.C_below HR0_1.out HB.out) | (with_reducible refine Kd.C_alloc ?_ _) | (with_reducible refine Kd.C_drewN ?_ _) | (with_reducible refine Kd.C_drew ?_))); (case side2 => exact HC0_1.out); (case side3 => repeat (first | exact (Kd.C_below HR0_5.out HB.out) | (with_reducible refine Kd.C_alloc ?_ _) | (with_reducible refine Kd.C_drewN ?_ _) | (with_reducible refine Kd.C_drew ?_))); (case side4 => exact HC0_5.out); rintro e w10 ⟨rfl, hb⟩; refine ⟨_, rfl, ?_⟩; have n0_ := Aside0.mk (blk_below (g := gb809) (o := .cells #[.int .i64 a0_0, .slice A0_1 l0_1.length c0_1, .int .i64 a0_2, .int .i64 a0_3, .int .i64 a0_4, .slice A0_5 l0_5.length c0_5, .int .i64 a0_6] 81 (0, 0)) (by (with_reducible repeat (first | refine blk_drewN ?_ _ | refine blk_drew ?_ | refine blk_alloc ?_ _)); exact BK809.out) hb); have n1_ := Aside0.mk (below_step (by repeat (first | (with_reducible first | exact HB.out | apply below_alloc | apply pw_below_drewN | apply below_drew1 | refine below_set ?_ GE809.out) | exact HB.out)) hb); clear BK809; clear HB; have BK809 := n0_; have HB := n1_; clear n0_ n1_; (try clear hb); (try clear hb2); (try clear hk); (try clear hi)))
    go_ret
    exact ⟨by first | rfl | (simp [errW_none, errW_some] <;> rfl) | (simp [*, errW_none, errW_some] <;> rfl), by repeat (first | (with_reducible first | exact HB.out | apply below_alloc | apply pw_below_drewN | apply below_drew1 | refine below_set ?_ GE809.out) | exact HB.out)⟩

end Go.Proofs.Ytmmhghddldhogaa.S
