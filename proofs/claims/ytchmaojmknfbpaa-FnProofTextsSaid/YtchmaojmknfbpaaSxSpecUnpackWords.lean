/- Each function of the program that stands below is a plain Lean function, and the call of the program comes to what that function says. No condition beyond those in the statements. -/
import Derived.Test.YtchmaojmknfbpaaSx0
namespace Go.Proofs.Ytchmaojmknfbpaa.S
open Go.RowKit Go.Proofs.YtchmaojmknfbpaaW.PrintWords Go.Proofs.YtchmaojmknfbpaaW.PrintLast Go.Proofs.YtchmaojmknfbpaaW.PrintMore
attribute [local go_sem] max2_int min2_int max_two min_two max_three min_three max_four min_four   -- for this text's walks alone
set_option linter.unusedVariables false
set_option linter.unusedSimpArgs false

/-! ### spec_UnpackWords: function 52 -/
def spec_UnpackWords.l0 : Nat → List Int → Int → Int → Int → List (List Int) → Option (Int × Int × (List (List Int)))
  | 0, _, _, _, _, _ => none
  | k + 1, x0, x4, x742000, x742001, x742002 => if x4 < (x0.length : Int) then (if 0 ≤ x4 then (if (x742002.length : Int) = 60 then (some (2, x4, ([] : List (List Int)))) else (if (wrap64 (rd x0 x4)) > 200 then (some (3, x4, ([] : List (List Int)))) else (if (wrap64 ((wrap64 (x4 + 1)) + (wrap64 (rd x0 x4)))) > (x0.length : Int) then (some (5, (x0.length : Int), ([] : List (List Int)))) else ((some (([] : List Int) : List Int)).bind fun y743 => (if 0 ≤ (wrap64 (x4 + 1)) then (if (wrap64 (x4 + 1)) ≤ (wrap64 ((wrap64 (x4 + 1)) + (wrap64 (rd x0 x4)))) then (if (wrap64 ((wrap64 (x4 + 1)) + (wrap64 (rd x0 x4)))) ≤ (x0.length : Int) then (if y743.length + ((x0.take ((wrap64 ((wrap64 (x4 + 1)) + (wrap64 (rd x0 x4)))) : Int).toNat).drop ((wrap64 (x4 + 1)) : Int).toNat).length < 140737488355328 then (if x742002.length < 5864062014805 then (spec_UnpackWords.l0 k x0 (wrap64 ((wrap64 (x4 + 1)) + (wrap64 (rd x0 x4)))) x742000 x742001 (x742002 ++ [(y743 ++ ((x0.take ((wrap64 ((wrap64 (x4 + 1)) + (wrap64 (rd x0 x4)))) : Int).toNat).drop ((wrap64 (x4 + 1)) : Int).toNat))])) else (none)) else (none)) else (none)) else (none)) else (none)))))) else (none)) else (some (x742000, x742001, x742002))
def spec_UnpackWords.f (k : Nat) (l0 : List Int) : Option (Int × Int × (List (List Int))) := if (l0.length : Int) > 4000 then (some (2, 0, ([] : List (List Int)))) else (spec_UnpackWords.l0 k l0 0 0 0 ([] : List (List Int)))
def spec_UnpackWords.T13 : Bool × List (List Nat × List Nat) := (true, [([], []), ([0], [0]), ([], []), ([], []), ([], []), ([4], [4]), ([], []), ([6], [6]), ([], []), ([7, 8], [7, 8]), ([3, 5, 9], [3, 5, 9]), ([2, 10], [2, 10]), ([11], [11]), ([1, 12, 11], [1, 12]), ([0, 1, 2, 3, 4, 5, 6, 7, 8, 9, 10, 11, 12, 13], []), ([14, 13, 13, 0, 1, 2, 3, 4, 5, 6, 7, 8, 9, 10, 11, 12, 13], [13, 14])])
def spec_UnpackWords.B13 : List Nat := [0, 1, 0, 0, 0, 16, 0, 64, 0, 448, 1016, 2044, 4092, 8191, 16383, 32767]
theorem spec_UnpackWords.tab13 : rtab .any (opsOf Try.f52 13) = spec_UnpackWords.T13 := by kernel_rfl
theorem spec_UnpackWords.bits13 : waitsOk spec_UnpackWords.T13.2 spec_UnpackWords.B13 = true := by kernel_rfl
set_option maxHeartbeats 8000000 in
set_option maxRecDepth 100000 in
theorem spec_UnpackWords.calls (k : Nat) (A0 : Option Addr) (c0 : Nat) (l0 : List Int) (r1 : Int) (r2 : Int) (r3 : List (List Int)) (w : World) (hr0 : Kd.C (Kd.int .u8) w A0 l0.length l0) (hc0 : l0.length ≤ c0) (h : spec_UnpackWords.f k l0 = some (r1, r2, r3)) :
    Calls Try.prog 52 #[.slice A0 l0.length c0] w fun e w' => ∃ v2_ : Value, e = .returned (.agg #[.int .i64 r1, .int .i64 r2, v2_]) ∧ Kd.S (Kd.slice 5 (Kd.int .u8)) 22 w' w.heap.size (fun _ => True) v2_ r3 ∧ Below w.heap.size w w' := by
  have hu72 := Try.underlying72
  have HR0 := Aside0.mk hr0
  have HC0 := Aside0.mk hc0
  clear hr0 hc0
  have HB := Aside0.mk (Below.refl w.heap.size w)
  have H : (if (l0.length : Int) > 4000 then (some (2, 0, ([] : List (List Int)))) else (spec_UnpackWords.l0 k l0 0 0 0 ([] : List (List Int)))) = some (r1, r2, r3) := h
  clear h
  by_cases c2 : (l0.length : Int) > 4000
  · rw [if_pos c2] at H
    have c2b0 : decide (4000 < (l0.length : Int)) = true := decide_eq_true c2
    have c2b1 : decide (4000 < l0.length) = true := decide_eq_true (by omega)
    clear c2
    simp only [Option.some.injEq, Prod.mk.injEq] at H
    obtain ⟨rfl, rfl, rfl⟩ := H
    go_enter Try.func52, Try.ntmps52
    go_wp2_with (first | ((with_reducible refine gate_dst (N := 2) rfl ?_); refine box_event ?hg (N := 2) ?hd (cs := #[.int .i64 0, .int .i64 0, .slice none 0 0]) (t := 72) ?hr ?_; (case hd => rfl); (case hg => rfl); (case hr => first | (go_simp; done) | (go_simp; rfl)); intro gb740 hg w3 hbox hb; have n0_ := Aside0.mk (below_step (by repeat (first | (with_reducible first | exact HB.out | apply below_alloc | apply pw_below_drewN | apply below_drew1) | exact HB.out)) hb); have n1_ := Aside0.mk (hbox); have n2_ := Aside0.mk ((by rw [hg]; exact (below_size (by repeat (first | (with_reducible first | exact HB.out | apply below_alloc | apply pw_below_drewN | apply below_drew1) | exact HB.out))) : w.heap.size ≤ gb740)); have n3_ := Aside0.mk ((by rw [hg]; exact (below_size (by repeat (first | (with_reducible first | exact HB.out | apply below_alloc | apply pw_below_drewN | apply below_drew1) | exact HB.out))) : w.heap.size ≤ gb740)); clear HB; have HB := n0_; have BK740 := n1_; have GW740 := n2_; have GE740 := n3_; clear n0_ n1_ n2_ n3_; clear hb hbox hg; have hcz4_0 : w3.cell? ⟨gb740, 0, none⟩ = some (.int .i64 0) := (blk_cell BK740.out 0).trans (by first | rfl | (simp only [*] <;> rfl)); have hcz4_1 : w3.cell? ⟨gb740, 1, none⟩ = some (.int .i64 0) := (blk_cell BK740.out 1).trans (by first | rfl | (simp only [*] <;> rfl)); have hcz4_2 : w3.cell? ⟨gb740, 2, none⟩ = some (.slice none 0 0) := (blk_cell BK740.out 2).trans (by first | rfl | (simp only [*] <;> rfl)); have hfz4_0 := blk_frozen BK740.out 0; have hfz4_1 := blk_frozen BK740.out 1; have hfz4_2 := blk_frozen BK740.out 2))
    refine bodyPost_ret (results_cell_row rfl _ _ gb740 72 #[.int .i64 2, .int .i64 0, .slice none 0 0] (0, 0) _ rfl (by (with_reducible repeat (first | refine blk_drewN ?_ _ | refine blk_drew ?_ | refine blk_alloc ?_ _)); refine blk_put (cs := #[.int .i64 2, .int .i64 0, .slice none 0 0]) ?_ 2 _ rfl; (with_reducible repeat (first | refine blk_drewN ?_ _ | refine blk_drew ?_ | refine blk_alloc ?_ _)); refine blk_put (cs := #[.int .i64 2, .int .i64 0, .slice none 0 0]) ?_ 1 _ rfl; (with_reducible repeat (first | refine blk_drewN ?_ _ | refine blk_drew ?_ | refine blk_alloc ?_ _)); refine blk_put (cs := #[.int .i64 0, .int .i64 0, .slice none 0 0]) ?_ 0 _ rfl; (with_reducible repeat (first | refine blk_drewN ?_ _ | refine blk_drew ?_ | refine blk_alloc ?_ _)); exact BK740.out) Try.underlying72 rfl (by kernel_rfl)) rfl ?_
    exact ⟨_, by first | rfl | (simp [errW_none, errW_some] <;> rfl) | (simp [*, errW_none, errW_some] <;> rfl), by first | exact Kd.S_nil _ _ _ _ _ | exact Kd.N_nil _ _ _ _ _ | exact Kd.V_nil _ _ _ _ _ | exact Kd.Q_nil _ _ _ _ _ | exact Kd.R_nil _ _ _ _ _, by repeat (first | (with_reducible first | exact HB.out | apply below_alloc | apply pw_below_drewN | apply below_drew1 | refine below_set ?_ GE740.out) | exact HB.out)⟩
  · rw [if_neg c2] at H
    have c2b0 : decide (4000 < (l0.length : Int)) = false := decide_eq_false c2
    have c2b1 : decide (4000 < l0.length) = false := decide_eq_false (by omega)
    clear c2
    have H' := Aside0.mk H
    clear H
    go_enter Try.func52, Try.ntmps52
    go_wp2_with (first | ((with_reducible refine gate_dst (N := 2) rfl ?_); refine box_event ?hg (N := 2) ?hd (cs := #[.int .i64 0, .int .i64 0, .slice none 0 0]) (t := 72) ?hr ?_; (case hd => rfl); (case hg => rfl); (case hr => first | (go_simp; done) | (go_simp; rfl)); intro gb740 hg w5 hbox hb; have n0_ := Aside0.mk (below_step (by repeat (first | (with_reducible first | exact HB.out | apply below_alloc | apply pw_below_drewN | apply below_drew1) | exact HB.out)) hb); have n1_ := Aside0.mk (hbox); have n2_ := Aside0.mk ((by rw [hg]; exact (below_size (by repeat (first | (with_reducible first | exact HB.out | apply below_alloc | apply pw_below_drewN | apply below_drew1) | exact HB.out))) : w.heap.size ≤ gb740)); have n3_ := Aside0.mk ((by rw [hg]; exact (below_size (by repeat (first | (with_reducible first | exact HB.out | apply below_alloc | apply pw_below_drewN | apply below_drew1) | exact HB.out))) : w.heap.size ≤ gb740)); clear HB; have HB := n0_; have BK740 := n1_; have GW740 := n2_; have GE740 := n3_; clear n0_ n1_ n2_ n3_; clear hb hbox hg) | ((with_reducible refine gate_dst (N := 3) rfl ?_); refine box_event ?hg (N := 3) ?hd (cs := #[.int .i64 0, .int .i64 0, .slice none 0 0]) (t := 72) ?hr ?_; (case hd => rfl); (case hg => rfl); (case hr => first | (go_simp; done) | (go_simp; rfl)); intro gb741 hg w6 hbox hb; have n0_ := Aside0.mk (blk_below (g := gb740) (o := .cells #[.int .i64 0, .int .i64 0, .slice none 0 0] 72 (0, 0)) (by (with_reducible repeat (first | refine blk_drewN ?_ _ | refine blk_drew ?_ | refine blk_alloc ?_ _)); exact BK740.out) hb); have n1_ := Aside0.mk (below_step (by repeat (first | (with_reducible first | exact HB.out | apply below_alloc | apply pw_below_drewN | apply below_drew1 | refine below_set ?_ GE740.out) | exact HB.out)) hb); have n2_ := Aside0.mk (hbox); have n3_ := Aside0.mk ((by rw [hg]; exact (below_size (by repeat (first | (with_reducible first | exact HB.out | apply below_alloc | apply pw_below_drewN | apply below_drew1 | refine below_set ?_ GE740.out) | exact HB.out))) : w.heap.size ≤ gb741)); have n4_ := Aside0.mk ((by rw [hg]; exact (below_size (by repeat (first | (with_reducible first | exact HB.out | apply below_alloc | apply pw_below_drewN | apply below_drew1 | refine below_set ?_ GE740.out) | exact HB.out))) : w.heap.size ≤ gb741)); have n5_ := Aside0.mk ((by rw [hg]; exact Nat.ne_of_lt (blk_lt (g := gb740) (o := .cells #[.int .i64 0, .int .i64 0, .slice none 0 0] 72 (0, 0)) (by (with_reducible repeat (first | refine blk_drewN ?_ _ | refine blk_drew ?_ | refine blk_alloc ?_ _)); exact BK740.out)) : gb740 ≠ gb741)); have n6_ := Aside0.mk ((by rw [hg]; exact Nat.ne_of_gt (blk_lt (g := gb740) (o := .cells #[.int .i64 0, .int .i64 0, .slice none 0 0] 72 (0, 0)) (by (with_reducible repeat (first | refine blk_drewN ?_ _ | refine blk_drew ?_ | refine blk_alloc ?_ _)); exact BK740.out)) : gb741 ≠ gb740)); clear BK740; clear HB; have BK740 := n0_; have HB := n1_; have BK741 := n2_; have GW741 := n3_; have GE741 := n4_; have NB740_741 := n5_; have NB741_740 := n6_; clear n0_ n1_ n2_ n3_ n4_ n5_ n6_; clear hb hbox hg; have hnb7 := NB741_740.out; have hnc7 := NB740_741.out; have hcz8_0 : w6.cell? ⟨gb741, 0, none⟩ = some (.int .i64 0) := (blk_cell BK741.out 0).trans (by first | rfl | (simp only [*] <;> rfl)); have hcz8_1 : w6.cell? ⟨gb741, 1, none⟩ = some (.int .i64 0) := (blk_cell BK741.out 1).trans (by first | rfl | (simp only [*] <;> rfl)); have hcz8_2 : w6.cell? ⟨gb741, 2, none⟩ = some (.slice none 0 0) := (blk_cell BK741.out 2).trans (by first | rfl | (simp only [*] <;> rfl)); have hfz8_0 := blk_frozen BK741.out 0; have hfz8_1 := blk_frozen BK741.out 1; have hfz8_2 := blk_frozen BK741.out 2))
    go_loopg [4] k (fun kq v4 w' => ∃ (x4_1 : Int) (x741000_1 : Int) (x741001_1 : Int) (x742002_1 : List (List Int)) (u742002 : Value), v4 = .int .i64 x4_1 ∧ Aside0 (spec_UnpackWords.l0 kq l0 x4_1 0 0 x742002_1 = some (r1, r2, r3)) ∧ Aside0 (kq ≤ k) ∧ Aside0 (Kd.S (Kd.slice 5 (Kd.int .u8)) 22 w' w.heap.size (fun _ => True) u742002 x742002_1) ∧ Aside0 (w'.heap[gb740]? = some (.cells #[.int .i64 x741000_1, .int .i64 x741001_1, (.slice none 0 0)] 72 (0, 0))) ∧ Aside0 (w'.heap[gb741]? = some (.cells #[.int .i64 0, .int .i64 0, u742002] 72 (0, 0))) ∧ Aside0 (Below w.heap.size w w'))
    case atStart => exact ⟨(0), (0), (0), (([] : List (List Int))), (.slice none 0 0), (by first | rfl | (simp; done) | (simp [*]; done)), H', ⟨Nat.le_refl _⟩, ⟨by first | exact Kd.S_nil _ _ _ _ _ | exact Kd.N_nil _ _ _ _ _ | exact Kd.V_nil _ _ _ _ _ | exact Kd.Q_nil _ _ _ _ _ | exact Kd.R_nil _ _ _ _ _⟩, ⟨by (with_reducible repeat (first | refine blk_drewN ?_ _ | refine blk_drew ?_ | refine blk_alloc ?_ _)); refine blk_far ?_ NB740_741.out _; (with_reducible repeat (first | refine blk_drewN ?_ _ | refine blk_drew ?_ | refine blk_alloc ?_ _)); refine blk_far ?_ NB740_741.out _; (with_reducible repeat (first | refine blk_drewN ?_ _ | refine blk_drew ?_ | refine blk_alloc ?_ _)); refine blk_far ?_ NB740_741.out _; (with_reducible repeat (first | refine blk_drewN ?_ _ | refine blk_drew ?_ | refine blk_alloc ?_ _)); exact BK740.out⟩, ⟨by (with_reducible repeat (first | refine blk_drewN ?_ _ | refine blk_drew ?_ | refine blk_alloc ?_ _)); refine blk_put (cs := #[.int .i64 0, .int .i64 0, .slice none 0 0]) ?_ 2 _ rfl; (with_reducible repeat (first | refine blk_drewN ?_ _ | refine blk_drew ?_ | refine blk_alloc ?_ _)); refine blk_put (cs := #[.int .i64 0, .int .i64 0, .slice none 0 0]) ?_ 1 _ rfl; (with_reducible repeat (first | refine blk_drewN ?_ _ | refine blk_drew ?_ | refine blk_alloc ?_ _)); refine blk_put (cs := #[.int .i64 0, .int .i64 0, .slice none 0 0]) ?_ 0 _ rfl; (with_reducible repeat (first | refine blk_drewN ?_ _ | refine blk_drew ?_ | refine blk_alloc ?_ _)); exact BK741.out⟩, ⟨by repeat (first | (with_reducible first | exact HB.out | apply below_alloc | apply pw_below_drewN | apply below_drew1 | refine below_set ?_ GE740.out | refine below_set ?_ GE741.out) | exact HB.out)⟩⟩
    case round =>
      clear H'
      try clear c2
      try clear c2b0
      try clear c2b1
      try clear p2
      try clear c5
      try clear c7
      try clear hcz4_0
      try clear hcz4_1
      try clear hcz4_2
      try clear hcz8_0
      try clear hcz8_1
      try clear hcz8_2
      try clear hfz4_0
      try clear hfz4_1
      try clear hfz4_2
      try clear hfz8_0
      try clear hfz8_1
      try clear hfz8_2
      obtain ⟨x4_1, x741000_1, x741001_1, x742002_1, u742002, rfl, HA, HK1, HO_742002, BK740, BK741, HB⟩ := hrel
      cases gk with
      | zero => exact absurd HA.out (by simp [spec_UnpackWords.l0])
      | succ k1 =>
        have H := HA.out
        clear HA
        simp only [spec_UnpackWords.l0] at H
        by_cases c9 : x4_1 < (l0.length : Int)
        · rw [if_pos c9] at H
          have c9b0 : decide (x4_1 < (l0.length : Int)) = true := decide_eq_true c9
          clear c9
          by_cases c10 : 0 ≤ x4_1
          · rw [if_pos c10] at H
            have c10b0 : decide (0 ≤ x4_1) = true := decide_eq_true c10
            clear c10
            by_cases c11 : (x742002_1.length : Int) = 60
            · rw [if_pos c11] at H
              have c11b0 : ((x742002_1.length : Int) == 60) = true := beq_iff_eq.mpr c11
              have c11b1 : ((x742002_1.length : Int) != 60) = false := bne_eq_false_iff_eq.mpr c11
              clear c11
              simp only [Option.some.injEq, Prod.mk.injEq] at H
              obtain ⟨rfl, rfl, rfl⟩ := H
              have p742 : 0 ≤ (x4_1 : Int) := of_decide_eq_true (by first | (with_reducible assumption) | assumption)
              have q742 : x4_1 < (l0.length : Int) := of_decide_eq_true (by first | (with_reducible assumption) | assumption)
              obtain ⟨ad742, e742, hx742_0⟩ := Kd.at_int HR0.out x4_1 p742 q742
              cases e742
              replace hx742_0 := (HB.out.cell (World.block_lt_of_cell? w _ hx742_0)).trans hx742_0
              replace p742 := eq_true p742
              replace q742 := eq_true q742
              have hnb12 := NB741_740.out
              have hnc12 := NB740_741.out
              have hcz13_0 : wr.cell? ⟨gb741, 0, none⟩ = some (.int .i64 0) := (blk_cell BK741.out 0).trans (by first | rfl | (simp only [*] <;> rfl))
              have hcz13_1 : wr.cell? ⟨gb741, 1, none⟩ = some (.int .i64 0) := (blk_cell BK741.out 1).trans (by first | rfl | (simp only [*] <;> rfl))
              have hcz13_2 : wr.cell? ⟨gb741, 2, none⟩ = some (u742002) := (blk_cell BK741.out 2).trans (by first | rfl | (simp only [*] <;> rfl))
              have hfz13_0 := blk_frozen BK741.out 0
              have hfz13_1 := blk_frozen BK741.out 1
              have hfz13_2 := blk_frozen BK741.out 2
              obtain ⟨Ao14, co14, eo14⟩ := Kd.S_slice HO_742002.out
              subst eo14
              have hcz15_0 : wr.cell? ⟨gb740, 0, none⟩ = some (.int .i64 x741000_1) := (blk_cell BK740.out 0).trans (by first | rfl | (simp only [*] <;> rfl))
              have hcz15_1 : wr.cell? ⟨gb740, 1, none⟩ = some (.int .i64 x741001_1) := (blk_cell BK740.out 1).trans (by first | rfl | (simp only [*] <;> rfl))
              have hcz15_2 : wr.cell? ⟨gb740, 2, none⟩ = some (.slice none 0 0) := (blk_cell BK740.out 2).trans (by first | rfl | (simp only [*] <;> rfl))
              have hfz15_0 := blk_frozen BK740.out 0
              have hfz15_1 := blk_frozen BK740.out 1
              have hfz15_2 := blk_frozen BK740.out 2
              go_wp2
              refine bodyPost_ret (results_cell_row rfl _ _ gb740 72 #[.int .i64 2, .int .i64 x4_1, .slice none 0 0] (0, 0) _ rfl (by (with_reducible repeat (first | refine blk_drewN ?_ _ | refine blk_drew ?_ | refine blk_alloc ?_ _)); refine blk_put (cs := #[.int .i64 2, .int .i64 x4_1, .slice none 0 0]) ?_ 2 _ rfl; (with_reducible repeat (first | refine blk_drewN ?_ _ | refine blk_drew ?_ | refine blk_alloc ?_ _)); refine blk_put (cs := #[.int .i64 2, .int .i64 x741001_1, .slice none 0 0]) ?_ 1 _ rfl; (with_reducible repeat (first | refine blk_drewN ?_ _ | refine blk_drew ?_ | refine blk_alloc ?_ _)); refine blk_put (cs := #[.int .i64 x741000_1, .int .i64 x741001_1, .slice none 0 0]) ?_ 0 _ rfl; (with_reducible repeat (first | refine blk_drewN ?_ _ | refine blk_drew ?_ | refine blk_alloc ?_ _)); exact BK740.out) Try.underlying72 rfl (by kernel_rfl)) rfl ?_
              exact ⟨_, by first | rfl | (simp [errW_none, errW_some] <;> rfl) | (simp [*, errW_none, errW_some] <;> rfl), by first | exact Kd.S_nil _ _ _ _ _ | exact Kd.N_nil _ _ _ _ _ | exact Kd.V_nil _ _ _ _ _ | exact Kd.Q_nil _ _ _ _ _ | exact Kd.R_nil _ _ _ _ _, by repeat (first | (with_reducible first | exact HB.out | apply below_alloc | apply pw_below_drewN | apply below_drew1 | refine below_set ?_ GE740.out | refine below_set ?_ GE741.out) | exact HB.out)⟩
            · rw [if_neg c11] at H
              have c11b0 : ((x742002_1.length : Int) == 60) = false := beq_eq_false_iff_ne.mpr c11
              have c11b1 : ((x742002_1.length : Int) != 60) = true := bne_iff_ne.mpr c11
              by_cases c16 : (wrap64 (rd l0 x4_1)) > 200
              · rw [if_pos c16] at H
                have c16b0 : decide (200 < (wrap64 (rd l0 x4_1))) = true := decide_eq_true c16
                clear c16
                simp only [Option.some.injEq, Prod.mk.injEq] at H
                obtain ⟨rfl, rfl, rfl⟩ := H
                have p742 : 0 ≤ (x4_1 : Int) := of_decide_eq_true (by first | (with_reducible assumption) | assumption)
                have q742 : x4_1 < (l0.length : Int) := of_decide_eq_true (by first | (with_reducible assumption) | assumption)
                obtain ⟨ad742, e742, hx742_0⟩ := Kd.at_int HR0.out x4_1 p742 q742
                cases e742
                replace hx742_0 := (HB.out.cell (World.block_lt_of_cell? w _ hx742_0)).trans hx742_0
                replace p742 := eq_true p742
                replace q742 := eq_true q742
                have hnb17 := NB741_740.out
                have hnc17 := NB740_741.out
                have hcz18_0 : wr.cell? ⟨gb741, 0, none⟩ = some (.int .i64 0) := (blk_cell BK741.out 0).trans (by first | rfl | (simp only [*] <;> rfl))
                have hcz18_1 : wr.cell? ⟨gb741, 1, none⟩ = some (.int .i64 0) := (blk_cell BK741.out 1).trans (by first | rfl | (simp only [*] <;> rfl))
                have hcz18_2 : wr.cell? ⟨gb741, 2, none⟩ = some (u742002) := (blk_cell BK741.out 2).trans (by first | rfl | (simp only [*] <;> rfl))
                have hfz18_0 := blk_frozen BK741.out 0
                have hfz18_1 := blk_frozen BK741.out 1
                have hfz18_2 := blk_frozen BK741.out 2
                obtain ⟨Ao19, co19, eo19⟩ := Kd.S_slice HO_742002.out
                subst eo19
                have hcz20_0 : wr.cell? ⟨gb740, 0, none⟩ = some (.int .i64 x741000_1) := (blk_cell BK740.out 0).trans (by first | rfl | (simp only [*] <;> rfl))
                have hcz20_1 : wr.cell? ⟨gb740, 1, none⟩ = some (.int .i64 x741001_1) := (blk_cell BK740.out 1).trans (by first | rfl | (simp only [*] <;> rfl))
                have hcz20_2 : wr.cell? ⟨gb740, 2, none⟩ = some (.slice none 0 0) := (blk_cell BK740.out 2).trans (by first | rfl | (simp only [*] <;> rfl))
                have hfz20_0 := blk_frozen BK740.out 0
                have hfz20_1 := blk_frozen BK740.out 1
                have hfz20_2 := blk_frozen BK740.out 2
                go_wp2
                refine bodyPost_ret (results_cell_row rfl _ _ gb740 72 #[.int .i64 3, .int .i64 x4_1, .slice none 0 0] (0, 0) _ rfl (by (with_reducible repeat (first | refine blk_drewN ?_ _ | refine blk_drew ?_ | refine blk_alloc ?_ _)); refine blk_put (cs := #[.int .i64 3, .int .i64 x4_1, .slice none 0 0]) ?_ 2 _ rfl; (with_reducible repeat (first | refine blk_drewN ?_ _ | refine blk_drew ?_ | refine blk_alloc ?_ _)); refine blk_put (cs := #[.int .i64 3, .int .i64 x741001_1, .slice none 0 0]) ?_ 1 _ rfl; (with_reducible repeat (first | refine blk_drewN ?_ _ | refine blk_drew ?_ | refine blk_alloc ?_ _)); refine blk_put (cs := #[.int .i64 x741000_1, .int .i64 x741001_1, .slice none 0 0]) ?_ 0 _ rfl; (with_reducible repeat (first | refine blk_drewN ?_ _ | refine blk_drew ?_ | refine blk_alloc ?_ _)); exact BK740.out) Try.underlying72 rfl (by kernel_rfl)) rfl ?_
                exact ⟨_, by first | rfl | (simp [errW_none, errW_some] <;> rfl) | (simp [*, errW_none, errW_some] <;> rfl), by first | exact Kd.S_nil _ _ _ _ _ | exact Kd.N_nil _ _ _ _ _ | exact Kd.V_nil _ _ _ _ _ | exact Kd.Q_nil _ _ _ _ _ | exact Kd.R_nil _ _ _ _ _, by repeat (first | (with_reducible first | exact HB.out | apply below_alloc | apply pw_below_drewN | apply below_drew1 | refine below_set ?_ GE740.out | refine below_set ?_ GE741.out) | exact HB.out)⟩
              · rw [if_neg c16] at H
                have c16b0 : decide (200 < (wrap64 (rd l0 x4_1))) = false := decide_eq_false c16
                clear c16
                by_cases c21 : (wrap64 ((wrap64 (x4_1 + 1)) + (wrap64 (rd l0 x4_1)))) > (l0.length : Int)
                · rw [if_pos c21] at H
                  have c21b0 : decide ((l0.length : Int) < (wrap64 ((wrap64 (x4_1 + 1)) + (wrap64 (rd l0 x4_1))))) = true := decide_eq_true c21
                  clear c21
                  simp only [Option.some.injEq, Prod.mk.injEq] at H
                  obtain ⟨rfl, rfl, rfl⟩ := H
                  have p742 : 0 ≤ (x4_1 : Int) := of_decide_eq_true (by first | (with_reducible assumption) | assumption)
                  have q742 : x4_1 < (l0.length : Int) := of_decide_eq_true (by first | (with_reducible assumption) | assumption)
                  obtain ⟨ad742, e742, hx742_0⟩ := Kd.at_int HR0.out x4_1 p742 q742
                  cases e742
                  replace hx742_0 := (HB.out.cell (World.block_lt_of_cell? w _ hx742_0)).trans hx742_0
                  replace p742 := eq_true p742
                  replace q742 := eq_true q742
                  have hnb22 := NB741_740.out
                  have hnc22 := NB740_741.out
                  have hcz23_0 : wr.cell? ⟨gb741, 0, none⟩ = some (.int .i64 0) := (blk_cell BK741.out 0).trans (by first | rfl | (simp only [*] <;> rfl))
                  have hcz23_1 : wr.cell? ⟨gb741, 1, none⟩ = some (.int .i64 0) := (blk_cell BK741.out 1).trans (by first | rfl | (simp only [*] <;> rfl))
                  have hcz23_2 : wr.cell? ⟨gb741, 2, none⟩ = some (u742002) := (blk_cell BK741.out 2).trans (by first | rfl | (simp only [*] <;> rfl))
                  have hfz23_0 := blk_frozen BK741.out 0
                  have hfz23_1 := blk_frozen BK741.out 1
                  have hfz23_2 := blk_frozen BK741.out 2
                  obtain ⟨Ao24, co24, eo24⟩ := Kd.S_slice HO_742002.out
                  subst eo24
                  have hcz25_0 : wr.cell? ⟨gb740, 0, none⟩ = some (.int .i64 x741000_1) := (blk_cell BK740.out 0).trans (by first | rfl | (simp only [*] <;> rfl))
                  have hcz25_1 : wr.cell? ⟨gb740, 1, none⟩ = some (.int .i64 x741001_1) := (blk_cell BK740.out 1).trans (by first | rfl | (simp only [*] <;> rfl))
                  have hcz25_2 : wr.cell? ⟨gb740, 2, none⟩ = some (.slice none 0 0) := (blk_cell BK740.out 2).trans (by first | rfl | (simp only [*] <;> rfl))
                  have hfz25_0 := blk_frozen BK740.out 0
                  have hfz25_1 := blk_frozen BK740.out 1
                  have hfz25_2 := blk_frozen BK740.out 2
                  go_wp2
                  refine bodyPost_ret (results_cell_row rfl _ _ gb740 72 #[.int .i64 5, .int .i64 (l0.length : Int), .slice none 0 0] (0, 0) _ rfl (by (with_reducible repeat (first | refine blk_drewN ?_ _ | refine blk_drew ?_ | refine blk_alloc ?_ _)); refine blk_put (cs := #[.int .i64 5, .int .i64 (l0.length : Int), .slice none 0 0]) ?_ 2 _ rfl; (with_reducible repeat (first | refine blk_drewN ?_ _ | refine blk_drew ?_ | refine blk_alloc ?_ _)); refine blk_put (cs := #[.int .i64 5, .int .i64 x741001_1, .slice none 0 0]) ?_ 1 _ rfl; (with_reducible repeat (first | refine blk_drewN ?_ _ | refine blk_drew ?_ | refine blk_alloc ?_ _)); refine blk_put (cs := #[.int .i64 x741000_1, .int .i64 x741001_1, .slice none 0 0]) ?_ 0 _ rfl; (with_reducible repeat (first | refine blk_drewN ?_ _ | refine blk_drew ?_ | refine blk_alloc ?_ _)); exact BK740.out) Try.underlying72 rfl (by kernel_rfl)) rfl ?_
                  exact ⟨_, by first | rfl | (simp [errW_none, errW_some] <;> rfl) | (simp [*, errW_none, errW_some] <;> rfl), by first | exact Kd.S_nil _ _ _ _ _ | exact Kd.N_nil _ _ _ _ _ | exact Kd.V_nil _ _ _ _ _ | exact Kd.Q_nil _ _ _ _ _ | exact Kd.R_nil _ _ _ _ _, by repeat (first | (with_reducible first | exact HB.out | apply below_alloc | apply pw_below_drewN | apply below_drew1 | refine below_set ?_ GE740.out | refine below_set ?_ GE741.out) | exact HB.out)⟩
                · rw [if_neg c21] at H
                  have c21b0 : decide ((l0.length : Int) < (wrap64 ((wrap64 (x4_1 + 1)) + (wrap64 (rd l0 x4_1))))) = false := decide_eq_false c21
                  clear c21
                  obtain ⟨y743, hy743⟩ : ∃ y_ : List Int, y_ = (([] : List Int)) := ⟨_, rfl⟩
                  replace H : (if 0 ≤ (wrap64 (x4_1 + 1)) then (if (wrap64 (x4_1 + 1)) ≤ (wrap64 ((wrap64 (x4_1 + 1)) + (wrap64 (rd l0 x4_1)))) then (if (wrap64 ((wrap64 (x4_1 + 1)) + (wrap64 (rd l0 x4_1)))) ≤ (l0.length : Int) then (if y743.length + ((l0.take ((wrap64 ((wrap64 (x4_1 + 1)) + (wrap64 (rd l0 x4_1)))) : Int).toNat).drop ((wrap64 (x4_1 + 1)) : Int).toNat).length < 140737488355328 then (if x742002_1.length < 5864062014805 then (spec_UnpackWords.l0 k1 l0 (wrap64 ((wrap64 (x4_1 + 1)) + (wrap64 (rd l0 x4_1)))) 0 0 (x742002_1 ++ [(y743 ++ ((l0.take ((wrap64 ((wrap64 (x4_1 + 1)) + (wrap64 (rd l0 x4_1)))) : Int).toNat).drop ((wrap64 (x4_1 + 1)) : Int).toNat))])) else (none)) else (none)) else (none)) else (none)) else (none)) = some (r1, r2, r3) := by first | (rw [hy743]; with_reducible exact H) | (have H2_ := (Option.bind_some _ _).symm.trans H; rw [hy743]; with_reducible exact H2_) | (have H2_ := (Option.bind_some _ _).symm.trans H; with_reducible exact H2_) | with_reducible exact H | (rw [hy743]; exact H) | exact H
                  have Ny743 := Aside0.mk hy743
                  clear hy743
                  obtain ⟨ji26, hji26⟩ : ∃ j_ : Int, (wrap64 (x4_1 + 1)) = j_ := ⟨_, rfl⟩
                  replace H : (if 0 ≤ (ji26) then (if (ji26) ≤ (wrap64 ((ji26) + (wrap64 (rd l0 x4_1)))) then (if (wrap64 ((ji26) + (wrap64 (rd l0 x4_1)))) ≤ (l0.length : Int) then (if y743.length + ((l0.take ((wrap64 ((ji26) + (wrap64 (rd l0 x4_1)))) : Int).toNat).drop ((ji26) : Int).toNat).length < 140737488355328 then (if x742002_1.length < 5864062014805 then (spec_UnpackWords.l0 k1 l0 (wrap64 ((ji26) + (wrap64 (rd l0 x4_1)))) 0 0 (x742002_1 ++ [(y743 ++ ((l0.take ((wrap64 ((ji26) + (wrap64 (rd l0 x4_1)))) : Int).toNat).drop ((ji26) : Int).toNat))])) else (none)) else (none)) else (none)) else (none)) else (none)) = some (r1, r2, r3) := by first | (rw [hji26] at H; exact H) | (simp only [hji26] at H ⊢; exact H)
                  (try rw [hji26] at c21b0)
                  have hji26w : (IntKind.i64.wrap (x4_1 + 1)) = ji26 := (i64_w _).trans hji26
                  by_cases c27 : 0 ≤ (ji26)
                  · rw [if_pos c27] at H
                    have c27b0 := eq_true c27
                    have c27b1 : decide (0 ≤ (ji26)) = true := decide_eq_true c27
                    clear c27
                    by_cases c28 : (ji26) ≤ (wrap64 ((ji26) + (wrap64 (rd l0 x4_1))))
                    · rw [if_pos c28] at H
                      have c28b0 := eq_true c28
                      have c28b1 : decide ((ji26) ≤ (wrap64 ((ji26) + (wrap64 (rd l0 x4_1))))) = true := decide_eq_true c28
                      by_cases c29 : (wrap64 ((ji26) + (wrap64 (rd l0 x4_1)))) ≤ (l0.length : Int)
                      · rw [if_pos c29] at H
                        have c29b0 := eq_true c29
                        have c29b1 : decide ((wrap64 ((ji26) + (wrap64 (rd l0 x4_1)))) ≤ (l0.length : Int)) = true := decide_eq_true c29
                        by_cases c30 : y743.length + ((l0.take ((wrap64 ((ji26) + (wrap64 (rd l0 x4_1)))) : Int).toNat).drop ((ji26) : Int).toNat).length < 140737488355328
                        · rw [if_pos c30] at H
                          have LMc30 := Aside0.mk c30
                          clear c30
                          obtain ⟨y747, hy747⟩ : ∃ y_ : List Int, y_ = (y743 ++ ((l0.take ((wrap64 ((ji26) + (wrap64 (rd l0 x4_1)))) : Int).toNat).drop ((ji26) : Int).toNat)) := ⟨_, rfl⟩
                          replace H : (if x742002_1.length < 5864062014805 then (spec_UnpackWords.l0 k1 l0 (wrap64 ((ji26) + (wrap64 (rd l0 x4_1)))) 0 0 (x742002_1 ++ [y747])) else (none)) = some (r1, r2, r3) := by first | (rw [hy747]; with_reducible exact H) | (have H2_ := (Option.bind_some _ _).symm.trans H; rw [hy747]; with_reducible exact H2_) | (have H2_ := (Option.bind_some _ _).symm.trans H; with_reducible exact H2_) | with_reducible exact H | (rw [hy747]; exact H) | exact H
                          have Ny747 := Aside0.mk hy747
                          clear hy747
                          by_cases c31 : x742002_1.length < 5864062014805
                          · rw [if_pos c31] at H
                            have LMc31 := Aside0.mk c31
                            clear c31
                            obtain ⟨y750, hy750⟩ : ∃ y_ : List (List Int), y_ = (x742002_1 ++ [y747]) := ⟨_, rfl⟩
                            replace H : (spec_UnpackWords.l0 k1 l0 (wrap64 ((ji26) + (wrap64 (rd l0 x4_1)))) 0 0 y750) = some (r1, r2, r3) := by first | (rw [hy750]; with_reducible exact H) | (have H2_ := (Option.bind_some _ _).symm.trans H; rw [hy750]; with_reducible exact H2_) | (have H2_ := (Option.bind_some _ _).symm.trans H; with_reducible exact H2_) | with_reducible exact H | (rw [hy750]; exact H) | exact H
                            have Ny750 := Aside0.mk hy750
                            clear hy750
                            have H' := Aside0.mk H
                            clear H
                            have p742 : 0 ≤ (x4_1 : Int) := of_decide_eq_true (by first | (with_reducible assumption) | assumption)
                            have q742 : x4_1 < (l0.length : Int) := of_decide_eq_true (by first | (with_reducible assumption) | assumption)
                            obtain ⟨ad742, e742, hx742_0⟩ := Kd.at_int HR0.out x4_1 p742 q742
                            cases e742
                            replace hx742_0 := (HB.out.cell (World.block_lt_of_cell? w _ hx742_0)).trans hx742_0
                            replace p742 := eq_true p742
                            replace q742 := eq_true q742
                            have hnb32 := NB741_740.out
                            have hnc32 := NB740_741.out
                            have hcz33_0 : wr.cell? ⟨gb741, 0, none⟩ = some (.int .i64 0) := (blk_cell BK741.out 0).trans (by first | rfl | (simp only [*] <;> rfl))
                            have hcz33_1 : wr.cell? ⟨gb741, 1, none⟩ = some (.int .i64 0) := (blk_cell BK741.out 1).trans (by first | rfl | (simp only [*] <;> rfl))
                            have hcz33_2 : wr.cell? ⟨gb741, 2, none⟩ = some (u742002) := (blk_cell BK741.out 2).trans (by first | rfl | (simp only [*] <;> rfl))
                            have hfz33_0 := blk_frozen BK741.out 0
                            have hfz33_1 := blk_frozen BK741.out 1
                            have hfz33_2 := blk_frozen BK741.out 2
                            obtain ⟨Ao34, co34, eo34⟩ := Kd.S_slice HO_742002.out
                            subst eo34
                            try go_wp2
                            have n0_ := Aside0.mk (Kd.S_drew HO_742002.out)
                            have n1_ := Aside0.mk (blk_drew BK740.out)
                            have n2_ := Aside0.mk (blk_drew BK741.out)
                            have n3_ := Aside0.mk (below_drew1 HB.out)
                            clear HO_742002
                            clear BK740
                            clear BK741
                            clear HB
                            have HO_742002 := n0_
                            have BK740 := n1_
                            have BK741 := n2_
                            have HB := n3_
                            clear n0_ n1_ n2_ n3_
                            obtain ⟨i036, hi036, _, hsz36, _⟩ := info_parts info5
                            obtain ⟨A36, hcut36, hA36, hC36⟩ := print_mid_of (P := Try.prog) (Value.int .u8) 0 22 5 .i64 .i64 Try.underlying22 hi036 hsz36 (some ad742) c0 l0 (ji26) (wrap64 ((ji26) + (wrap64 (rd l0 x4_1)))) (of_decide_eq_true (by first | (with_reducible assumption) | assumption)) (by first | omega | exact of_decide_eq_true (by first | (with_reducible assumption) | assumption)) (of_decide_eq_true (by first | (with_reducible assumption) | assumption)) HC0.out
                            have HR746 := Aside0.mk (Kd.C_of_reads (h1 := fun _ => rfl) (hA36 _ (Kd.reads_of_C HR0.out)))
                            have HC746 := Aside0.mk hC36
                            clear hA36 hC36 hi036 hsz36
                            refine start_ (n := 16) (S := fun w' => w'.cell? ⟨gb741, 0, none⟩ = some (.int .i64 0) ∧ w'.cell? ⟨gb741, 1, none⟩ = some (.int .i64 0) ∧ w'.cell? ⟨gb741, 2, none⟩ = some (.slice Ao34 x742002_1.length co34)) (ds := [15]) #[false, false, false, false, false, false, false, false, false, false, false, false, false, false, false, false] (by kernel_rfl) rfl rfl ⟨(blk_cell BK741.out 0).trans (by first | rfl | (simp only [*] <;> rfl)), (blk_cell BK741.out 1).trans (by first | rfl | (simp only [*] <;> rfl)), (blk_cell BK741.out 2).trans (by first | rfl | (simp only [*] <;> rfl))⟩ (fun hHeld => ?_); refine with_tabW spec_UnpackWords.tab13 spec_UnpackWords.bits13 (fun HT_ HW_ => ?_)
                            generalize wr.drew = w35 at HO_742002 BK740 BK741 HB HR746 hHeld ⊢
                            refine pure_ (i := 0) (N := some 40) (v := ?_) (a' := ?_) #[true, false, false, false, false, false, false, false, false, false, false, false, false, false, false, false] rfl rfl (any_of HT_.out (by kernel_rfl)) (fun _ _ _ h => h) (Or.inl ⟨by rfl, ?_⟩) ?_ ?_
                            rotate_left
                            · intro w'
                              go_simp
                              with_reducible rfl
                            rotate_left
                            · simp only [Act.put, List.setIfInBounds_toArray, List.set_cons_zero, List.set_cons_succ, i64_w, i32_w]
                              rfl
                            refine pure_ (i := 3) (N := some 43) (v := ?_) (a' := ?_) #[true, false, false, true, false, false, false, false, false, false, false, false, false, false, false, false] rfl rfl (any_of HT_.out (by kernel_rfl)) (fun _ _ _ h => h) (Or.inl ⟨by rfl, ?_⟩) ?_ ?_
                            rotate_left
                            · intro w'
                              go_simp
                              with_reducible rfl
                            rotate_left
                            · simp only [Act.put, List.setIfInBounds_toArray, List.set_cons_zero, List.set_cons_succ, i64_w, i32_w]
                              rfl
                            refine pure_ (i := 4) (N := some 44) (v := ?_) (a' := ?_) #[true, false, false, true, true, false, false, false, false, false, false, false, false, false, false, false] rfl rfl (any_of HT_.out (by kernel_rfl)) (fun _ _ _ h => h) (Or.inl ⟨by rfl, ?_⟩) ?_ ?_
                            rotate_left
                            · intro w'
                              go_simp
                              with_reducible rfl
                            rotate_left
                            · simp only [Act.put, List.setIfInBounds_toArray, List.set_cons_zero, List.set_cons_succ, i64_w, i32_w]
                              rfl
                            refine pure_ (i := 5) (N := some 45) (v := ?_) (a' := ?_) #[true, false, false, true, true, true, false, false, false, false, false, false, false, false, false, false] rfl rfl (any_of HT_.out (by kernel_rfl)) (fun _ _ _ h => h) (Or.inl ⟨by rfl, ?_⟩) ?_ ?_
                            rotate_left
                            · intro w'
                              go_simp
                              with_reducible rfl
                            rotate_left
                            · simp only [Act.put, List.setIfInBounds_toArray, List.set_cons_zero, List.set_cons_succ, i64_w, i32_w]
                              rfl
                            refine pure_ (i := 6) (N := some 46) (v := ?_) (a' := ?_) #[true, false, false, true, true, true, true, false, false, false, false, false, false, false, false, false] rfl rfl (any_of HT_.out (by kernel_rfl)) (fun _ _ _ h => h) (Or.inl ⟨by rfl, ?_⟩) ?_ ?_
                            rotate_left
                            · intro w'
                              go_simp
                              with_reducible rfl
                            rotate_left
                            · simp only [Act.put, List.setIfInBounds_toArray, List.set_cons_zero, List.set_cons_succ, i64_w, i32_w]
                              rfl
                            refine pure_ (i := 7) (N := some 47) (v := ?_) (a' := ?_) #[true, false, false, true, true, true, true, true, false, false, false, false, false, false, false, false] rfl rfl (any_of HT_.out (by kernel_rfl)) (fun _ _ _ h => h) (Or.inl ⟨by rfl, ?_⟩) ?_ ?_
                            rotate_left
                            · intro w'
                              go_simp
                              with_reducible rfl
                            rotate_left
                            · simp only [Act.put, List.setIfInBounds_toArray, List.set_cons_zero, List.set_cons_succ, i64_w, i32_w]
                              rfl
                            refine pure_ (i := 8) (N := some 48) (v := ?_) (a' := ?_) #[true, false, false, true, true, true, true, true, true, false, false, false, false, false, false, false] rfl rfl (any_of HT_.out (by kernel_rfl)) (fun _ _ _ h => h) (Or.inl ⟨by rfl, ?_⟩) ?_ ?_
                            rotate_left
                            · intro w'
                              go_simp
                              with_reducible rfl
                            rotate_left
                            · simp only [Act.put, List.setIfInBounds_toArray, List.set_cons_zero, List.set_cons_succ, i64_w, i32_w]
                              rfl
                            refine pure_ (i := 9) (N := some 49) (v := ?_) (a' := ?_) #[true, false, false, true, true, true, true, true, true, true, false, false, false, false, false, false] rfl rfl (any_of HT_.out (by kernel_rfl)) (fun _ _ _ h => h) (Or.inl ⟨by rfl, ?_⟩) ?_ ?_
                            rotate_left
                            · intro w'
                              go_simp
                              with_reducible rfl
                            rotate_left
                            · simp only [Act.put, List.setIfInBounds_toArray, List.set_cons_zero, List.set_cons_succ, i64_w, i32_w]
                              rfl
                            refine pure_ (i := 10) (N := some 50) (v := ?_) (a' := ?_) #[true, false, false, true, true, true, true, true, true, true, true, false, false, false, false, false] rfl rfl (any_of HT_.out (by kernel_rfl)) (fun _ _ _ h => h) (Or.inl ⟨by rfl, ?_⟩) ?_ ?_
                            rotate_left
                            · intro w'
                              go_simp
                              with_reducible rfl
                            rotate_left
                            · simp only [Act.put, List.setIfInBounds_toArray, List.set_cons_zero, List.set_cons_succ, i64_w, i32_w]
                              rfl
                            refine take_ (i := 1) (N := some 41) (v := ?_) (a' := ?_) #[true, true, false, true, true, true, true, true, true, true, true, false, false, false, false, false] rfl rfl (take_ofW HT_.out HW_.out (by kernel_rfl)) (fun _ _ _ h => h) (Or.inl ⟨by rfl, ?_⟩) hHeld ?_ ?_
                            rotate_left
                            · rintro w' ⟨s0, s1, s2⟩
                              go_simp
                              with_reducible rfl
                            rotate_left
                            · simp only [Act.put, List.setIfInBounds_toArray, List.set_cons_zero, List.set_cons_succ, i64_w, i32_w]
                              rfl
                            refine one_ (i := 2) (N := some 42) #[true, true, true, true, true, true, true, true, true, true, true, false, false, false, false, false] rfl rfl (one_of HT_.out (by kernel_rfl)) (by decide) (fun K hK => ?_)
                            refine Kd.R_lit_step (Kd.int .u8) _ 5 ?hg (N := 42) ?hd (xs := ([] : List Int)) (inner := []) (ok := fun _ => True) (okp := fun _ => True) ?hr ?hp (fun _ hk => hk) trivial (Below.refl _ _) (Nat.le_refl _) (by simp) ?_; (case hd => rfl); (case hg => rfl); (case hr => first | (go_simp; done) | (go_simp; rfl)); (case hp => exact (Reps.none _ _))
                            intro v744 w37 ho38 hb hg_ hnew_
                            clear hg_ hnew_
                            (first | rw [← Ny743.out] at ho38 | (simp only [Int.reduceToNat] at ho38; rw [← Ny743.out] at ho38))
                            have n0_ := Aside0.mk (Kd.S_elder' (by (with_reducible repeat (first | apply Kd.S_alloc | apply Kd.S_drewN | apply Kd.S_drew)); exact HO_742002.out) (Kd.R_base ho38) hb)
                            have n1_ := Aside0.mk (Kd.R_lower ho38 (below_size (by repeat (first | (with_reducible first | exact HB.out | apply below_alloc | apply pw_below_drewN | apply below_drew1 | refine below_set ?_ GE740.out | refine below_set ?_ GE741.out) | exact HB.out))))
                            have n2_ := Aside0.mk (blk_below (g := gb740) (o := .cells #[.int .i64 x741000_1, .int .i64 x741001_1, .slice none 0 0] 72 (0, 0)) (by (with_reducible repeat (first | refine blk_drewN ?_ _ | refine blk_drew ?_ | refine blk_alloc ?_ _)); exact BK740.out) hb)
                            have n3_ := Aside0.mk (blk_below (g := gb741) (o := .cells #[.int .i64 0, .int .i64 0, .slice Ao34 x742002_1.length co34] 72 (0, 0)) (by (with_reducible repeat (first | refine blk_drewN ?_ _ | refine blk_drew ?_ | refine blk_alloc ?_ _)); exact BK741.out) hb)
                            have n4_ := Aside0.mk (below_step (by repeat (first | (with_reducible first | exact HB.out | apply below_alloc | apply pw_below_drewN | apply below_drew1 | refine below_set ?_ GE740.out | refine below_set ?_ GE741.out) | exact HB.out)) hb)
                            clear HO_742002
                            clear BK740
                            clear BK741
                            clear HB
                            have HO_742002 := n0_
                            have HO745 := n1_
                            have BK740 := n2_
                            have BK741 := n3_
                            have HB := n4_
                            clear n0_ n1_ n2_ n3_ n4_
                            clear hb ho38
                            refine hK.out _ _ ⟨(blk_cell BK741.out 0).trans (by first | rfl | (simp only [*] <;> rfl)), (blk_cell BK741.out 1).trans (by first | rfl | (simp only [*] <;> rfl)), (blk_cell BK741.out 2).trans (by first | rfl | (simp only [*] <;> rfl))⟩ (fun hHeld => ?_)
                            clear hK K
                            refine norm_ (a' := ?_) ?_ ?_
                            rotate_left
                            · show Act.put _ (some 42) _ = _
                              simp only [Act.put, List.setIfInBounds_toArray, List.set_cons_zero, List.set_cons_succ, i64_w, i32_w]
                              rfl
                            refine one_ (i := 11) (N := some 51) #[true, true, true, true, true, true, true, true, true, true, true, true, false, false, false, false] rfl rfl (one_of HT_.out (by kernel_rfl)) (by decide) (fun K hK => ?_)
                            refine Kd.R_append_rows_step (Kd.int .u8) (w0 := w) w.heap.size (by rfl) (.tmp 42) (.tmp 50) 22 5 (.int .u8 0) 1 rfl Try.underlying22 info5 rfl (by decide) (by omega) v744 y743 ((l0.take ((wrap64 ((ji26) + (wrap64 (rd l0 x4_1)))) : Int).toNat).drop ((ji26) : Int).toNat) _ _ _ (fun _ => True) (fun _ => False) rfl rfl ?aO ?aR (fun _ _ h => h) (fun _ h => h.elim) ?aF ?aB ?aS ?aL ?_
                            (case aR => first | (rw [← show ((l0.take ((wrap64 ((ji26) + (wrap64 (rd l0 x4_1)))) : Int).toNat).drop ((ji26) : Int).toNat).length = ((wrap64 ((ji26) + (wrap64 (rd l0 x4_1)))).toNat - (ji26).toNat) from (by rw [List.length_drop, List.length_take]; have h_ : ((wrap64 ((ji26) + (wrap64 (rd l0 x4_1)))) : Int) ≤ (l0.length : Int) := of_decide_eq_true (by first | (with_reducible assumption) | assumption); omega)]; repeat (first | exact (Kd.C_below HR746.out HB.out) | (with_reducible refine Kd.C_alloc ?_ _) | (with_reducible refine Kd.C_drewN ?_ _) | (with_reducible refine Kd.C_drew ?_))) | (repeat (first | exact (Kd.C_below HR746.out HB.out) | (with_reducible refine Kd.C_alloc ?_ _) | (with_reducible refine Kd.C_drewN ?_ _) | (with_reducible refine Kd.C_drew ?_))))
                            (case aB => exact (by repeat (first | (with_reducible first | exact HB.out | apply below_alloc | apply pw_below_drewN | apply below_drew1 | refine below_set ?_ GE740.out | refine below_set ?_ GE741.out) | exact HB.out)))
                            (case aF => exact (fun _ _ => trivial))
                            (case aO => exact (by (with_reducible repeat (first | apply Kd.R_alloc | apply Kd.R_drewN | apply Kd.R_drew)); exact HO745.out))
                            (case aS => exact (below_size (by repeat (first | (with_reducible first | exact HB.out | apply below_alloc | apply pw_below_drewN | apply below_drew1 | refine below_set ?_ GE740.out | refine below_set ?_ GE741.out) | exact HB.out))))
                            (case aL => have := LMc30.out; have hlx_ := (show ((l0.take ((wrap64 ((ji26) + (wrap64 (rd l0 x4_1)))) : Int).toNat).drop ((ji26) : Int).toNat).length = ((wrap64 ((ji26) + (wrap64 (rd l0 x4_1)))).toNat - (ji26).toNat) from (by rw [List.length_drop, List.length_take]; have h_ : ((wrap64 ((ji26) + (wrap64 (rd l0 x4_1)))) : Int) ≤ (l0.length : Int) := of_decide_eq_true (by first | (with_reducible assumption) | assumption); omega)); omega)
                            intro v748 w39 ho hb hg hat
                            rw [← Ny747.out] at ho
                            have n0_ := Aside0.mk (Kd.S_after (ok := (fun _ => True)) (by (with_reducible repeat (first | apply Kd.S_alloc | apply Kd.S_drewN | apply Kd.S_drew)); exact HO_742002.out) hg hat)
                            have n1_ := Aside0.mk (blk_grown (g := gb740) (o := .cells #[.int .i64 x741000_1, .int .i64 x741001_1, .slice none 0 0] 72 (0, 0)) (by (with_reducible repeat (first | refine blk_drewN ?_ _ | refine blk_drew ?_ | refine blk_alloc ?_ _)); exact BK740.out) hg (Kd.R_ne HO745.out BK740.out (by decide)))
                            have n2_ := Aside0.mk (blk_grown (g := gb741) (o := .cells #[.int .i64 0, .int .i64 0, .slice Ao34 x742002_1.length co34] 72 (0, 0)) (by (with_reducible repeat (first | refine blk_drewN ?_ _ | refine blk_drew ?_ | refine blk_alloc ?_ _)); exact BK741.out) hg (Kd.R_ne HO745.out BK741.out (by decide)))
                            have n3_ := Aside0.mk (hb)
                            have n4_ := Aside0.mk (ho)
                            clear HO_742002
                            clear BK740
                            clear BK741
                            clear HB
                            clear HO745
                            have HO_742002 := n0_
                            have BK740 := n1_
                            have BK741 := n2_
                            have HB := n3_
                            have HO749 := n4_
                            clear n0_ n1_ n2_ n3_ n4_
                            clear ho hb hg hat
                            obtain ⟨Ao41, co41, eo41⟩ := Kd.R_slice HO749.out
                            (first | subst eo41 | (injection eo41 with f1_ f2_ f3_; have f4_ := f1_.symm; have f5_ := f3_.symm; clear f1_ f2_ f3_; subst f4_; subst f5_))
                            refine hK.out _ _ ⟨(blk_cell BK741.out 0).trans (by first | rfl | (simp only [*] <;> rfl)), (blk_cell BK741.out 1).trans (by first | rfl | (simp only [*] <;> rfl)), (blk_cell BK741.out 2).trans (by first | rfl | (simp only [*] <;> rfl))⟩ (fun hHeld => ?_)
                            clear hK K
                            refine norm_ (a' := ?_) ?_ ?_
                            rotate_left
                            · show Act.put _ (some 51) _ = _
                              simp only [Act.put, List.setIfInBounds_toArray, List.set_cons_zero, List.set_cons_succ, i64_w, i32_w]
                              rfl
                            refine one_ (i := 12) (N := some 52) #[true, true, true, true, true, true, true, true, true, true, true, true, true, false, false, false] rfl rfl (one_of HT_.out (by kernel_rfl)) (by decide) (fun K hK => ?_)
                            refine value_ (w1 := ?_) (v := ?_) (by rfl) rfl ?_ ?_
                            rotate_left 2
                            · go_simp
                              constructor
                              · rfl
                              · rfl
                            refine hK.out _ _ ⟨(blk_cell (blk_alloc BK741.out _) 0).trans rfl, (blk_cell (blk_alloc BK741.out _) 1).trans rfl, (blk_cell (blk_alloc BK741.out _) 2).trans rfl⟩ (fun hHeld => ?_)
                            clear hK K
                            refine norm_ (a' := ?_) ?_ ?_
                            rotate_left
                            · show Act.put _ (some 52) _ = _
                              simp only [Act.put, List.setIfInBounds_toArray, List.set_cons_zero, List.set_cons_succ, i64_w, i32_w]
                              rfl
                            refine one_ (i := 13) (N := some 53) #[true, true, true, true, true, true, true, true, true, true, true, true, true, true, false, false] rfl rfl (one_of HT_.out (by kernel_rfl)) (by decide) (fun K hK => ?_)
                            refine Kd.S_append_step (Kd.slice 5 (Kd.int .u8)) (w0 := w) w.heap.size (by rfl) (.tmp 41) (.tmp 52) 23 22 (.slice none 0 0) 24 rfl Try.underlying23 info22 rfl (by decide) (by omega) (.slice Ao34 x742002_1.length co34) x742002_1 y747 [.slice Ao41 y747.length co41] (fun _ => True) (fun k_ => some k_ = (.slice Ao41 y747.length co41 : Value).ownBlock) rfl rfl ?aP (fun k_ hk_ => ((Kd.R_mono (ok' := fun k_ => ((fun _ => True)) k_ ∧ some k_ ≠ (.slice Ao34 x742002_1.length co34 : Value).ownBlock) (Kd.R_apart' (HO749.out) (Kd.S_typed HO_742002.out) (by decide)) (fun k_ hk => ⟨trivial, hk.2⟩))).1 k_ hk_.symm) ?aF ?aO ?aB ?aS ?aL ?_
                            (case aP => exact Kd.M_row (Kd.R_mono (Kd.R_tight rfl (Kd.R_mono (ok' := fun k_ => ((fun _ => True)) k_ ∧ some k_ ≠ (.slice Ao34 x742002_1.length co34 : Value).ownBlock) (Kd.R_apart' (HO749.out) (Kd.S_typed HO_742002.out) (by decide)) (fun k_ hk => ⟨trivial, hk.2⟩))) (fun _ h_ => h_)))
                            (case aB => exact (by repeat (first | (with_reducible first | exact HB.out | apply below_alloc | apply pw_below_drewN | apply below_drew1 | refine below_set ?_ GE740.out | refine below_set ?_ GE741.out) | exact HB.out)))
                            (case aF => exact (fun _ _ => trivial))
                            (case aO => exact (by (with_reducible repeat (first | apply Kd.S_alloc | apply Kd.S_drewN | apply Kd.S_drew)); exact Kd.S_mono HO_742002.out (fun k_ hk => ⟨trivial, fun e_ => hk.2 e_⟩)))
                            (case aS => exact (below_size (by repeat (first | (with_reducible first | exact HB.out | apply below_alloc | apply pw_below_drewN | apply below_drew1 | refine below_set ?_ GE740.out | refine below_set ?_ GE741.out) | exact HB.out))))
                            (case aL => have := LMc31.out; omega)
                            intro v751 w40 ho hb hg hat
                            rw [← Ny750.out] at ho
                            have n0_ := Aside0.mk (blk_grown (g := gb740) (o := .cells #[.int .i64 x741000_1, .int .i64 x741001_1, .slice none 0 0] 72 (0, 0)) (by (with_reducible repeat (first | refine blk_drewN ?_ _ | refine blk_drew ?_ | refine blk_alloc ?_ _)); exact BK740.out) hg (Kd.S_ne HO_742002.out BK740.out (by decide)))
                            have n1_ := Aside0.mk (blk_grown (g := gb741) (o := .cells #[.int .i64 0, .int .i64 0, .slice Ao34 x742002_1.length co34] 72 (0, 0)) (by (with_reducible repeat (first | refine blk_drewN ?_ _ | refine blk_drew ?_ | refine blk_alloc ?_ _)); exact BK741.out) hg (Kd.S_ne HO_742002.out BK741.out (by decide)))
                            have n2_ := Aside0.mk (hb)
                            have n3_ := Aside0.mk (ho)
                            clear BK740
                            clear BK741
                            clear HB
                            clear HO_742002
                            clear HO749
                            have BK740 := n0_
                            have BK741 := n1_
                            have HB := n2_
                            have HO752 := n3_
                            clear n0_ n1_ n2_ n3_
                            clear ho hb hg hat
                            obtain ⟨Ao42, co42, eo42⟩ := Kd.S_slice HO752.out
                            (first | subst eo42 | (injection eo42 with f1_ f2_ f3_; have f4_ := f1_.symm; have f5_ := f3_.symm; clear f1_ f2_ f3_; subst f4_; subst f5_))
                            refine hK.out _ _ ⟨(blk_cell BK741.out 0).trans (by first | rfl | (simp only [*] <;> rfl)), (blk_cell BK741.out 1).trans (by first | rfl | (simp only [*] <;> rfl)), (blk_cell BK741.out 2).trans (by first | rfl | (simp only [*] <;> rfl))⟩ (fun hHeld => ?_)
                            clear hK K
                            refine norm_ (a' := ?_) ?_ ?_
                            rotate_left
                            · show Act.put _ (some 53) _ = _
                              simp only [Act.put, List.setIfInBounds_toArray, List.set_cons_zero, List.set_cons_succ, i64_w, i32_w]
                              rfl
                            refine pure_ (i := 14) (N := some 54) (v := ?_) (a' := ?_) #[true, true, true, true, true, true, true, true, true, true, true, true, true, true, true, false] rfl rfl (any_of HT_.out (by kernel_rfl)) (fun _ _ _ h => h) (Or.inl ⟨by rfl, ?_⟩) ?_ ?_
                            rotate_left
                            · intro w'
                              go_simp
                              with_reducible rfl
                            rotate_left
                            · simp only [Act.put, List.setIfInBounds_toArray, List.set_cons_zero, List.set_cons_succ, i64_w, i32_w]
                              rfl
                            refine last_ (i := 15) (N := none) #[true, true, true, true, true, true, true, true, true, true, true, true, true, true, true, true] rfl rfl (one_of HT_.out (by kernel_rfl)) (by decide) (fun K hK => ?_)
                            have hs43 : w40.cell? ⟨gb741, 2, none⟩ = some (.slice Ao34 x742002_1.length co34) := (blk_cell BK741.out 2).trans (by first | rfl | (simp only [*] <;> rfl))
                            have hfs43 := blk_frozen BK741.out 2
                            have hns43_0 := NB740_741.out
                            have hms43_0 := NB741_740.out
                            refine skip_ (w1 := ?_) (by rfl) rfl ?_ ?_
                            rotate_left
                            · go_simp
                              rfl
                            refine hK.out _ _ ?_
                            clear hK K
                            refine done_ (done_of HT_.out (by kernel_rfl)) ?_
                            try go_wp2
                            go_roundg k1
                            case measure => have := HK1.out; omega
                            case rel => exact ⟨(wrap64 ((ji26) + (wrap64 (rd l0 x4_1)))), (x741000_1), (x741001_1), (y750), (.slice Ao42 y750.length co42), (by first | rfl | (simp; done) | (simp only [← hji26] <;> (first | rfl | simp)) | (simp [*]; done)), H', ⟨by have := HK1.out; omega⟩, ⟨by (with_reducible repeat (first | apply Kd.S_alloc | apply Kd.S_drewN | apply Kd.S_drew)); exact Kd.S_mono (Kd.S_far (p := ⟨gb741, 2, none⟩) (Kd.S_types HO752.out BK741.out (by decide)) (fun _ hk => hk.2) (.slice Ao42 y750.length co42)) (fun _ hk => trivial)⟩, ⟨by (with_reducible repeat (first | refine blk_drewN ?_ _ | refine blk_drew ?_ | refine blk_alloc ?_ _)); refine blk_far ?_ NB740_741.out _; (with_reducible repeat (first | refine blk_drewN ?_ _ | refine blk_drew ?_ | refine blk_alloc ?_ _)); exact BK740.out⟩, ⟨by (with_reducible repeat (first | refine blk_drewN ?_ _ | refine blk_drew ?_ | refine blk_alloc ?_ _)); refine blk_put (cs := #[.int .i64 0, .int .i64 0, .slice Ao34 x742002_1.length co34]) ?_ 2 _ rfl; (with_reducible repeat (first | refine blk_drewN ?_ _ | refine blk_drew ?_ | refine blk_alloc ?_ _)); exact BK741.out⟩, ⟨by repeat (first | (with_reducible first | exact HB.out | apply below_alloc | apply pw_below_drewN | apply below_drew1 | refine below_set ?_ GE740.out | refine below_set ?_ GE741.out) | exact HB.out)⟩⟩
                          · rw [if_neg c31] at H
                            exact absurd H (by simp)
                        · rw [if_neg c30] at H
                          exact absurd H (by simp)
                      · rw [if_neg c29] at H
                        exact absurd H (by simp)
                    · rw [if_neg c28] at H
                      exact absurd H (by simp)
                  · rw [if_neg c27] at H
                    exact absurd H (by simp)
          · rw [if_neg c10] at H
            exact absurd H (by simp)
        · rw [if_neg c9] at H
          have c9b0 : decide (x4_1 < (l0.length : Int)) = false := decide_eq_false c9
          clear c9
          simp only [Option.some.injEq, Prod.mk.injEq] at H
          obtain ⟨rfl, rfl, rfl⟩ := H
          have hnb44 := NB741_740.out
          have hnc44 := NB740_741.out
          have hcz45_0 : wr.cell? ⟨gb741, 0, none⟩ = some (.int .i64 0) := (blk_cell BK741.out 0).trans (by first | rfl | (simp only [*] <;> rfl))
          have hcz45_1 : wr.cell? ⟨gb741, 1, none⟩ = some (.int .i64 0) := (blk_cell BK741.out 1).trans (by first | rfl | (simp only [*] <;> rfl))
          have hcz45_2 : wr.cell? ⟨gb741, 2, none⟩ = some (u742002) := (blk_cell BK741.out 2).trans (by first | rfl | (simp only [*] <;> rfl))
          have hfz45_0 := blk_frozen BK741.out 0
          have hfz45_1 := blk_frozen BK741.out 1
          have hfz45_2 := blk_frozen BK741.out 2
          have hcz46_0 : wr.cell? ⟨gb740, 0, none⟩ = some (.int .i64 x741000_1) := (blk_cell BK740.out 0).trans (by first | rfl | (simp only [*] <;> rfl))
          have hcz46_1 : wr.cell? ⟨gb740, 1, none⟩ = some (.int .i64 x741001_1) := (blk_cell BK740.out 1).trans (by first | rfl | (simp only [*] <;> rfl))
          have hcz46_2 : wr.cell? ⟨gb740, 2, none⟩ = some (.slice none 0 0) := (blk_cell BK740.out 2).trans (by first | rfl | (simp only [*] <;> rfl))
          have hfz46_0 := blk_frozen BK740.out 0
          have hfz46_1 := blk_frozen BK740.out 1
          have hfz46_2 := blk_frozen BK740.out 2
          obtain ⟨Ao47, co47, eo47⟩ := Kd.S_slice HO_742002.out
          subst eo47
          go_wp2
          refine bodyPost_ret (results_cell_row rfl _ _ gb740 72 #[.int .i64 0, .int .i64 0, .slice Ao47 x742002_1.length co47] (0, 0) _ rfl (by (with_reducible repeat (first | refine blk_drewN ?_ _ | refine blk_drew ?_ | refine blk_alloc ?_ _)); refine blk_put (cs := #[.int .i64 0, .int .i64 0, .slice none 0 0]) ?_ 2 _ rfl; (with_reducible repeat (first | refine blk_drewN ?_ _ | refine blk_drew ?_ | refine blk_alloc ?_ _)); refine blk_put (cs := #[.int .i64 0, .int .i64 x741001_1, .slice none 0 0]) ?_ 1 _ rfl; (with_reducible repeat (first | refine blk_drewN ?_ _ | refine blk_drew ?_ | refine blk_alloc ?_ _)); refine blk_put (cs := #[.int .i64 x741000_1, .int .i64 x741001_1, .slice none 0 0]) ?_ 0 _ rfl; (with_reducible repeat (first | refine blk_drewN ?_ _ | refine blk_drew ?_ | refine blk_alloc ?_ _)); exact BK740.out) Try.underlying72 rfl (by kernel_rfl)) rfl ?_
          exact ⟨_, by first | rfl | (simp [errW_none, errW_some] <;> rfl) | (simp [*, errW_none, errW_some] <;> rfl), by (with_reducible repeat (first | apply Kd.S_alloc | apply Kd.S_drewN | apply Kd.S_drew)); exact Kd.S_mono (Kd.S_far (p := ⟨gb740, 2, none⟩) (Kd.S_far (p := ⟨gb740, 1, none⟩) (Kd.S_far (p := ⟨gb740, 0, none⟩) (Kd.S_types HO_742002.out BK740.out (by decide)) (fun _ hk => hk.2) (.int .i64 0)) (fun _ hk => hk.2) (.int .i64 0)) (fun _ hk => hk.2) (.slice Ao47 x742002_1.length co47)) (fun _ hk => trivial), by repeat (first | (with_reducible first | exact HB.out | apply below_alloc | apply pw_below_drewN | apply below_drew1 | refine below_set ?_ GE740.out | refine below_set ?_ GE741.out) | exact HB.out)⟩

end Go.Proofs.Ytchmaojmknfbpaa.S
