/- Each function of the program that stands below is a plain Lean function, and the call of the program comes to what that function says. No condition beyond those in the statements. -/
import Derived.Test.YtmmhghddldhogaaSx0
namespace Go.Proofs.Ytmmhghddldhogaa.S
open Go.RowKit Go.Proofs.YtmmhghddldhogaaW.PrintWords Go.Proofs.YtmmhghddldhogaaW.PrintLast Go.Proofs.YtmmhghddldhogaaW.PrintMore
attribute [local go_sem] max2_int min2_int max_two min_two max_three min_three max_four min_four   -- for this text's walks alone
set_option linter.unusedVariables false
set_option linter.unusedSimpArgs false

/-! ### impl_nextZeros: function 118 -/
def impl_nextZeros.j0 : Nat → List (S33) → Bool → List Int → Int → Int → Int → List Int → Int → Option (Int)
  | 0, _, _, _, _, _, _, _, _ => none
  | k + 1, x0, x19, x264000, x264001, x264002, x264003, x264004, x264005 => if x19 = true then (some x264003) else (if 0 ≤ (wrap64 ((wrap64 ((x0.length : Int) - 1)) - 4)) then (if (wrap64 ((wrap64 ((x0.length : Int) - 1)) - 4)) < (x0.length : Int) then (if (wrap64 (x264002 - ((rd_T33 x0 (wrap64 ((wrap64 ((x0.length : Int) - 1)) - 4))).f2))) < 20 then (some (mn (wrap64 (x264003 + 1)) 40)) else (if (wrap64 (x264002 - ((rd_T33 x0 (wrap64 ((wrap64 ((x0.length : Int) - 1)) - 4))).f2))) > 80 then (some (mx (wrap64 (x264003 - 1)) 0)) else (some x264003))) else (none)) else (none))
def impl_nextZeros.f (k : Nat) (l0 : List (S33)) : Option (Int) := if 0 ≤ (wrap64 ((l0.length : Int) - 1)) then (if (wrap64 ((l0.length : Int) - 1)) < (l0.length : Int) then (if (l0.length : Int) ≤ 4 then (impl_nextZeros.j0 k l0 true ((rd_T33 l0 (wrap64 ((l0.length : Int) - 1))).f0) ((rd_T33 l0 (wrap64 ((l0.length : Int) - 1))).f1) ((rd_T33 l0 (wrap64 ((l0.length : Int) - 1))).f2) ((rd_T33 l0 (wrap64 ((l0.length : Int) - 1))).f3) ((rd_T33 l0 (wrap64 ((l0.length : Int) - 1))).f4) ((rd_T33 l0 (wrap64 ((l0.length : Int) - 1))).f5)) else (impl_nextZeros.j0 k l0 ((Int.tmod ((rd_T33 l0 (wrap64 ((l0.length : Int) - 1))).f1) 4) != 0) ((rd_T33 l0 (wrap64 ((l0.length : Int) - 1))).f0) ((rd_T33 l0 (wrap64 ((l0.length : Int) - 1))).f1) ((rd_T33 l0 (wrap64 ((l0.length : Int) - 1))).f2) ((rd_T33 l0 (wrap64 ((l0.length : Int) - 1))).f3) ((rd_T33 l0 (wrap64 ((l0.length : Int) - 1))).f4) ((rd_T33 l0 (wrap64 ((l0.length : Int) - 1))).f5))) else (none)) else (none)
theorem impl_nextZeros.mono_l : ∀ k, (∀ y0 y1 y2 y3 y4 y5 y6 y7, LeO (impl_nextZeros.j0 k y0 y1 y2 y3 y4 y5 y6 y7) (impl_nextZeros.j0 (k + 1) y0 y1 y2 y3 y4 y5 y6 y7))
  | 0 => fun _ _ _ _ _ _ _ _ r h => by simp [impl_nextZeros.j0] at h
  | k + 1 => by
    have ih0 := impl_nextZeros.mono_l k
    · intro y0 y1 y2 y3 y4 y5 y6 y7
      unfold impl_nextZeros.j0
      repeat' first
      | (with_reducible exact ih0 _ _ _ _ _ _ _ _)
      | (with_reducible exact LeO.refl _)
      | (with_reducible exact LeO.none _)
      | (with_reducible refine LeO.ite ?_ ?_)
      | (with_reducible refine LeO.bind ?_ (fun _ => ?_))
      | exact ih0 _ _ _ _ _ _ _ _
      | exact LeO.none _
      | refine LeO.ite ?_ ?_
      | refine LeO.bind ?_ (fun _ => ?_)
theorem impl_nextZeros.mono : ∀ a0 k, LeO (impl_nextZeros.f k a0) (impl_nextZeros.f (k + 1) a0) := by
  intro a0 k
  have ih0 := impl_nextZeros.mono_l k
  unfold impl_nextZeros.f
  repeat' first
      | (with_reducible exact ih0 _ _ _ _ _ _ _ _)
      | (with_reducible exact LeO.refl _)
      | (with_reducible exact LeO.none _)
      | (with_reducible refine LeO.ite ?_ ?_)
      | (with_reducible refine LeO.bind ?_ (fun _ => ?_))
      | exact ih0 _ _ _ _ _ _ _ _
      | exact LeO.none _
      | refine LeO.ite ?_ ?_
      | refine LeO.bind ?_ (fun _ => ?_)
set_option maxHeartbeats 8000000 in
set_option maxRecDepth 100000 in
theorem impl_nextZeros.calls (k : Nat) (A0 : Option Addr) (c0 : Nat) (l0 : List (S33)) (r : Int) (w : World) (hr0 : Kd.C k33 w A0 l0.length l0) (hc0 : l0.length ≤ c0) (h : impl_nextZeros.f k l0 = some r) :
    Calls Try.prog 118 #[.slice A0 l0.length c0] w fun e w' => e = .returned (.int .i64 r) ∧ Below w.heap.size w w' := by
  have hu33 := Try.underlying33
  have HR0 := Aside0.mk hr0
  have HC0 := Aside0.mk hc0
  clear hr0 hc0
  have HB := Aside0.mk (Below.refl w.heap.size w)
  have H : (if 0 ≤ (wrap64 ((l0.length : Int) - 1)) then (if (wrap64 ((l0.length : Int) - 1)) < (l0.length : Int) then (if (l0.length : Int) ≤ 4 then (impl_nextZeros.j0 k l0 true ((rd_T33 l0 (wrap64 ((l0.length : Int) - 1))).f0) ((rd_T33 l0 (wrap64 ((l0.length : Int) - 1))).f1) ((rd_T33 l0 (wrap64 ((l0.length : Int) - 1))).f2) ((rd_T33 l0 (wrap64 ((l0.length : Int) - 1))).f3) ((rd_T33 l0 (wrap64 ((l0.length : Int) - 1))).f4) ((rd_T33 l0 (wrap64 ((l0.length : Int) - 1))).f5)) else (impl_nextZeros.j0 k l0 ((Int.tmod ((rd_T33 l0 (wrap64 ((l0.length : Int) - 1))).f1) 4) != 0) ((rd_T33 l0 (wrap64 ((l0.length : Int) - 1))).f0) ((rd_T33 l0 (wrap64 ((l0.length : Int) - 1))).f1) ((rd_T33 l0 (wrap64 ((l0.length : Int) - 1))).f2) ((rd_T33 l0 (wrap64 ((l0.length : Int) - 1))).f3) ((rd_T33 l0 (wrap64 ((l0.length : Int) - 1))).f4) ((rd_T33 l0 (wrap64 ((l0.length : Int) - 1))).f5))) else (none)) else (none)) = some r := h
  clear h
  obtain ⟨ji2, hji2⟩ : ∃ j_ : Int, (wrap64 ((l0.length : Int) - 1)) = j_ := ⟨_, rfl⟩
  have hjw2 : IntKind.i64.wrap ((l0.length : Int) - 1) = ji2 := (i64_w _).trans (hji2)
  replace H : (if 0 ≤ (ji2) then (if (ji2) < (l0.length : Int) then (if (l0.length : Int) ≤ 4 then (impl_nextZeros.j0 k l0 true ((rd_T33 l0 (ji2)).f0) ((rd_T33 l0 (ji2)).f1) ((rd_T33 l0 (ji2)).f2) ((rd_T33 l0 (ji2)).f3) ((rd_T33 l0 (ji2)).f4) ((rd_T33 l0 (ji2)).f5)) else (impl_nextZeros.j0 k l0 ((Int.tmod ((rd_T33 l0 (ji2)).f1) 4) != 0) ((rd_T33 l0 (ji2)).f0) ((rd_T33 l0 (ji2)).f1) ((rd_T33 l0 (ji2)).f2) ((rd_T33 l0 (ji2)).f3) ((rd_T33 l0 (ji2)).f4) ((rd_T33 l0 (ji2)).f5))) else (none)) else (none)) = some r := by first | (rw [hji2] at H; exact H) | (simp only [hji2] at H ⊢; exact H)
  have hji2w : (IntKind.i64.wrap ((l0.length : Int) - 1)) = ji2 := (i64_w _).trans hji2
  by_cases c3 : 0 ≤ (ji2)
  · rw [if_pos c3] at H
    have c3b0 : decide (0 ≤ (ji2)) = true := decide_eq_true c3
    clear c3
    by_cases c4 : (ji2) < (l0.length : Int)
    · rw [if_pos c4] at H
      have c4b0 : decide ((ji2) < (l0.length : Int)) = true := decide_eq_true c4
      clear c4
      have HC5 := Aside0.mk H
      clear H
      have p262 : 0 ≤ ((ji2) : Int) := of_decide_eq_true (by first | (with_reducible assumption) | assumption)
      have q262 : (ji2) < (l0.length : Int) := of_decide_eq_true (by first | (with_reducible assumption) | assumption)
      obtain ⟨ad262, A262_0, c262_0, A262_4, c262_4, e262, hx262_0, hx262_1, hx262_2, hx262_3, hx262_4, hx262_5, hl262_0, hi262_0, hl262_4, hi262_4⟩ := at_T33 HR0.out (ji2) p262 q262
      cases e262
      have HR262_0 := Aside0.mk hi262_0
      have HC262_0 := Aside0.mk hl262_0
      clear hi262_0 hl262_0
      have HR262_4 := Aside0.mk hi262_4
      have HC262_4 := Aside0.mk hl262_4
      clear hi262_4 hl262_4
      replace p262 := eq_true p262
      replace q262 := eq_true q262
      go_enter Try.func118, Try.ntmps118
      go_upto_region 2 with (first | ((with_reducible refine gate_dst (N := 3) rfl ?_); refine box_event ?hg (N := 3) ?hd (cs := #[.slice none 0 0, .int .i64 0, .int .i64 0, .int .i64 0, .slice none 0 0, .int .i64 0]) (t := 33) ?hr ?_; (case hd => rfl); (case hg => rfl); (case hr => first | (go_simp; done) | (go_simp; rfl)); intro gb263 hg w6 hbox hb; have n0_ := Aside0.mk (below_step (by repeat (first | (with_reducible first | exact HB.out | apply below_alloc | apply pw_below_drewN | apply below_drew1) | exact HB.out)) hb); have n1_ := Aside0.mk (hbox); have n2_ := Aside0.mk ((by rw [hg]; exact (below_size (by repeat (first | (with_reducible first | exact HB.out | apply below_alloc | apply pw_below_drewN | apply below_drew1) | exact HB.out))) : w.heap.size ≤ gb263)); have n3_ := Aside0.mk ((by rw [hg]; exact (below_size (by repeat (first | (with_reducible first | exact HB.out | apply below_alloc | apply pw_below_drewN | apply below_drew1) | exact HB.out))) : w.heap.size ≤ gb263)); clear HB; have HB := n0_; have BK263 := n1_; have GW263 := n2_; have GE263 := n3_; clear n0_ n1_ n2_ n3_; clear hb hbox hg; have hcz7_0 : w6.cell? ⟨gb263, 0, none⟩ = some (.slice none 0 0) := (blk_cell BK263.out 0).trans (by first | rfl | (simp only [*] <;> rfl)); have hcz7_1 : w6.cell? ⟨gb263, 1, none⟩ = some (.int .i64 0) := (blk_cell BK263.out 1).trans (by first | rfl | (simp only [*] <;> rfl)); have hcz7_2 : w6.cell? ⟨gb263, 2, none⟩ = some (.int .i64 0) := (blk_cell BK263.out 2).trans (by first | rfl | (simp only [*] <;> rfl)); have hcz7_3 : w6.cell? ⟨gb263, 3, none⟩ = some (.int .i64 0) := (blk_cell BK263.out 3).trans (by first | rfl | (simp only [*] <;> rfl)); have hcz7_4 : w6.cell? ⟨gb263, 4, none⟩ = some (.slice none 0 0) := (blk_cell BK263.out 4).trans (by first | rfl | (simp only [*] <;> rfl)); have hcz7_5 : w6.cell? ⟨gb263, 5, none⟩ = some (.int .i64 0) := (blk_cell BK263.out 5).trans (by first | rfl | (simp only [*] <;> rfl)); have hfz7_0 := blk_frozen BK263.out 0; have hfz7_1 := blk_frozen BK263.out 1; have hfz7_2 := blk_frozen BK263.out 2; have hfz7_3 := blk_frozen BK263.out 3; have hfz7_4 := blk_frozen BK263.out 4; have hfz7_5 := blk_frozen BK263.out 5))
      repeat (go_quiet (first | ((with_reducible refine gate_dst (N := 3) rfl ?_); refine box_event ?hg (N := 3) ?hd (cs := #[.slice none 0 0, .int .i64 0, .int .i64 0, .int .i64 0, .slice none 0 0, .int .i64 0]) (t := 33) ?hr ?_; (case hd => rfl); (case hg => rfl); (case hr => first | (go_simp; done) | (go_simp; rfl)); intro gb263 hg w6 hbox hb; have n0_ := Aside0.mk (below_step (by repeat (first | (with_reducible first | exact HB.out | apply below_alloc | apply pw_below_drewN | apply below_drew1) | exact HB.out)) hb); have n1_ := Aside0.mk (hbox); have n2_ := Aside0.mk ((by rw [hg]; exact (below_size (by repeat (first | (with_reducible first | exact HB.out | apply below_alloc | apply pw_below_drewN | apply below_drew1) | exact HB.out))) : w.heap.size ≤ gb263)); have n3_ := Aside0.mk ((by rw [hg]; exact (below_size (by repeat (first | (with_reducible first | exact HB.out | apply below_alloc | apply pw_below_drewN | apply below_drew1) | exact HB.out))) : w.heap.size ≤ gb263)); clear HB; have HB := n0_; have BK263 := n1_; have GW263 := n2_; have GE263 := n3_; clear n0_ n1_ n2_ n3_; clear hb hbox hg; have hcz7_0 : w6.cell? ⟨gb263, 0, none⟩ = some (.slice none 0 0) := (blk_cell BK263.out 0).trans (by first | rfl | (simp only [*] <;> rfl)); have hcz7_1 : w6.cell? ⟨gb263, 1, none⟩ = some (.int .i64 0) := (blk_cell BK263.out 1).trans (by first | rfl | (simp only [*] <;> rfl)); have hcz7_2 : w6.cell? ⟨gb263, 2, none⟩ = some (.int .i64 0) := (blk_cell BK263.out 2).trans (by first | rfl | (simp only [*] <;> rfl)); have hcz7_3 : w6.cell? ⟨gb263, 3, none⟩ = some (.int .i64 0) := (blk_cell BK263.out 3).trans (by first | rfl | (simp only [*] <;> rfl)); have hcz7_4 : w6.cell? ⟨gb263, 4, none⟩ = some (.slice none 0 0) := (blk_cell BK263.out 4).trans (by first | rfl | (simp only [*] <;> rfl)); have hcz7_5 : w6.cell? ⟨gb263, 5, none⟩ = some (.int .i64 0) := (blk_cell BK263.out 5).trans (by first | rfl | (simp only [*] <;> rfl)); have hfz7_0 := blk_frozen BK263.out 0; have hfz7_1 := blk_frozen BK263.out 1; have hfz7_2 := blk_frozen BK263.out 2; have hfz7_3 := blk_frozen BK263.out 3; have hfz7_4 := blk_frozen BK263.out 4; have hfz7_5 := blk_frozen BK263.out 5)); go_upto_region 2 with (first | ((with_reducible refine gate_dst (N := 3) rfl ?_); refine box_event ?hg (N := 3) ?hd (cs := #[.slice none 0 0, .int .i64 0, .int .i64 0, .int .i64 0, .slice none 0 0, .int .i64 0]) (t := 33) ?hr ?_; (case hd => rfl); (case hg => rfl); (case hr => first | (go_simp; done) | (go_simp; rfl)); intro gb263 hg w6 hbox hb; have n0_ := Aside0.mk (below_step (by repeat (first | (with_reducible first | exact HB.out | apply below_alloc | apply pw_below_drewN | apply below_drew1) | exact HB.out)) hb); have n1_ := Aside0.mk (hbox); have n2_ := Aside0.mk ((by rw [hg]; exact (below_size (by repeat (first | (with_reducible first | exact HB.out | apply below_alloc | apply pw_below_drewN | apply below_drew1) | exact HB.out))) : w.heap.size ≤ gb263)); have n3_ := Aside0.mk ((by rw [hg]; exact (below_size (by repeat (first | (with_reducible first | exact HB.out | apply below_alloc | apply pw_below_drewN | apply below_drew1) | exact HB.out))) : w.heap.size ≤ gb263)); clear HB; have HB := n0_; have BK263 := n1_; have GW263 := n2_; have GE263 := n3_; clear n0_ n1_ n2_ n3_; clear hb hbox hg; have hcz7_0 : w6.cell? ⟨gb263, 0, none⟩ = some (.slice none 0 0) := (blk_cell BK263.out 0).trans (by first | rfl | (simp only [*] <;> rfl)); have hcz7_1 : w6.cell? ⟨gb263, 1, none⟩ = some (.int .i64 0) := (blk_cell BK263.out 1).trans (by first | rfl | (simp only [*] <;> rfl)); have hcz7_2 : w6.cell? ⟨gb263, 2, none⟩ = some (.int .i64 0) := (blk_cell BK263.out 2).trans (by first | rfl | (simp only [*] <;> rfl)); have hcz7_3 : w6.cell? ⟨gb263, 3, none⟩ = some (.int .i64 0) := (blk_cell BK263.out 3).trans (by first | rfl | (simp only [*] <;> rfl)); have hcz7_4 : w6.cell? ⟨gb263, 4, none⟩ = some (.slice none 0 0) := (blk_cell BK263.out 4).trans (by first | rfl | (simp only [*] <;> rfl)); have hcz7_5 : w6.cell? ⟨gb263, 5, none⟩ = some (.int .i64 0) := (blk_cell BK263.out 5).trans (by first | rfl | (simp only [*] <;> rfl)); have hfz7_0 := blk_frozen BK263.out 0; have hfz7_1 := blk_frozen BK263.out 1; have hfz7_2 := blk_frozen BK263.out 2; have hfz7_3 := blk_frozen BK263.out 3; have hfz7_4 := blk_frozen BK263.out 4; have hfz7_5 := blk_frozen BK263.out 5)))
      (try simp only [Act.put, List.setIfInBounds_toArray, List.set_cons_zero, List.set_cons_succ])
      go_cut [19] (fun v19 wc => ∃ (kq : Nat) (x19_4 : Bool), v19 = .bool x19_4 ∧ Aside0 (impl_nextZeros.j0 kq l0 x19_4 ((rd_T33 l0 (ji2)).f0) ((rd_T33 l0 (ji2)).f1) ((rd_T33 l0 (ji2)).f2) ((rd_T33 l0 (ji2)).f3) ((rd_T33 l0 (ji2)).f4) ((rd_T33 l0 (ji2)).f5) = some r) ∧ Aside0 (kq ≤ k) ∧ Aside0 (wc.heap[gb263]? = some (.cells #[(.slice A262_0 ((rd_T33 l0 (ji2)).f0).length c262_0), .int .i64 ((rd_T33 l0 (ji2)).f1), .int .i64 ((rd_T33 l0 (ji2)).f2), .int .i64 ((rd_T33 l0 (ji2)).f3), (.slice A262_4 ((rd_T33 l0 (ji2)).f4).length c262_4), .int .i64 ((rd_T33 l0 (ji2)).f5)] 33 (0, 0))) ∧ Aside0 (Below w.heap.size w wc))
      case first =>
        have H := HC5.out
        clear HC5
        by_cases c8 : (l0.length : Int) ≤ 4
        · rw [if_pos c8] at H
          have c8b0 : decide ((l0.length : Int) ≤ 4) = true := decide_eq_true c8
          have c8b1 : decide (l0.length ≤ 4) = true := decide_eq_true (by omega)
          clear c8
          (first | rw [c8b0] | (simp only [i64_w, i32_w]; rw [c8b0]) | skip)
          have H' := Aside0.mk H
          clear H
          go_wp2
          repeat (go_quiet (fail); try go_wp2)
          go_meet
          case rel => exact ⟨_, (true), (by first | rfl | (simp; done) | (simp [*]; done)), H', ⟨by first | omega | exact Nat.le_refl _⟩, ⟨by (with_reducible repeat (first | refine blk_drewN ?_ _ | refine blk_drew ?_ | refine blk_alloc ?_ _)); refine blk_put (cs := #[.slice A262_0 ((rd_T33 l0 (ji2)).f0).length c262_0, .int .i64 ((rd_T33 l0 (ji2)).f1), .int .i64 ((rd_T33 l0 (ji2)).f2), .int .i64 ((rd_T33 l0 (ji2)).f3), .slice A262_4 ((rd_T33 l0 (ji2)).f4).length c262_4, .int .i64 0]) ?_ 5 _ rfl; (with_reducible repeat (first | refine blk_drewN ?_ _ | refine blk_drew ?_ | refine blk_alloc ?_ _)); refine blk_put (cs := #[.slice A262_0 ((rd_T33 l0 (ji2)).f0).length c262_0, .int .i64 ((rd_T33 l0 (ji2)).f1), .int .i64 ((rd_T33 l0 (ji2)).f2), .int .i64 ((rd_T33 l0 (ji2)).f3), .slice none 0 0, .int .i64 0]) ?_ 4 _ rfl; (with_reducible repeat (first | refine blk_drewN ?_ _ | refine blk_drew ?_ | refine blk_alloc ?_ _)); refine blk_put (cs := #[.slice A262_0 ((rd_T33 l0 (ji2)).f0).length c262_0, .int .i64 ((rd_T33 l0 (ji2)).f1), .int .i64 ((rd_T33 l0 (ji2)).f2), .int .i64 0, .slice none 0 0, .int .i64 0]) ?_ 3 _ rfl; (with_reducible repeat (first | refine blk_drewN ?_ _ | refine blk_drew ?_ | refine blk_alloc ?_ _)); refine blk_put (cs := #[.slice A262_0 ((rd_T33 l0 (ji2)).f0).length c262_0, .int .i64 ((rd_T33 l0 (ji2)).f1), .int .i64 0, .int .i64 0, .slice none 0 0, .int .i64 0]) ?_ 2 _ rfl; (with_reducible repeat (first | refine blk_drewN ?_ _ | refine blk_drew ?_ | refine blk_alloc ?_ _)); refine blk_put (cs := #[.slice A262_0 ((rd_T33 l0 (ji2)).f0).length c262_0, .int .i64 0, .int .i64 0, .int .i64 0, .slice none 0 0, .int .i64 0]) ?_ 1 _ rfl; (with_reducible repeat (first | refine blk_drewN ?_ _ | refine blk_drew ?_ | refine blk_alloc ?_ _)); refine blk_put (cs := #[.slice none 0 0, .int .i64 0, .int .i64 0, .int .i64 0, .slice none 0 0, .int .i64 0]) ?_ 0 _ rfl; (with_reducible repeat (first | refine blk_drewN ?_ _ | refine blk_drew ?_ | refine blk_alloc ?_ _)); exact BK263.out⟩, ⟨by repeat (first | (with_reducible first | exact HB.out | apply below_alloc | apply pw_below_drewN | apply below_drew1 | refine below_set ?_ GE263.out) | exact HB.out)⟩⟩
        · rw [if_neg c8] at H
          have c8b0 : decide ((l0.length : Int) ≤ 4) = false := decide_eq_false c8
          have c8b1 : decide (l0.length ≤ 4) = false := decide_eq_false (by omega)
          clear c8
          (first | rw [c8b0] | (simp only [i64_w, i32_w]; rw [c8b0]) | skip)
          have H' := Aside0.mk H
          clear H
          have hcz9_0 : w6.cell? ⟨gb263, 0, none⟩ = some (.slice none 0 0) := (blk_cell BK263.out 0).trans (by first | rfl | (simp only [*] <;> rfl))
          have hcz9_1 : w6.cell? ⟨gb263, 1, none⟩ = some (.int .i64 0) := (blk_cell BK263.out 1).trans (by first | rfl | (simp only [*] <;> rfl))
          have hcz9_2 : w6.cell? ⟨gb263, 2, none⟩ = some (.int .i64 0) := (blk_cell BK263.out 2).trans (by first | rfl | (simp only [*] <;> rfl))
          have hcz9_3 : w6.cell? ⟨gb263, 3, none⟩ = some (.int .i64 0) := (blk_cell BK263.out 3).trans (by first | rfl | (simp only [*] <;> rfl))
          have hcz9_4 : w6.cell? ⟨gb263, 4, none⟩ = some (.slice none 0 0) := (blk_cell BK263.out 4).trans (by first | rfl | (simp only [*] <;> rfl))
          have hcz9_5 : w6.cell? ⟨gb263, 5, none⟩ = some (.int .i64 0) := (blk_cell BK263.out 5).trans (by first | rfl | (simp only [*] <;> rfl))
          have hfz9_0 := blk_frozen BK263.out 0
          have hfz9_1 := blk_frozen BK263.out 1
          have hfz9_2 := blk_frozen BK263.out 2
          have hfz9_3 := blk_frozen BK263.out 3
          have hfz9_4 := blk_frozen BK263.out 4
          have hfz9_5 := blk_frozen BK263.out 5
          go_wp2
          repeat (go_quiet (fail); try go_wp2)
          go_meet
          case rel => exact ⟨_, (((Int.tmod ((rd_T33 l0 (ji2)).f1) 4) != 0)), (by first | rfl | (simp; done) | (simp only [← hji2] <;> (first | rfl | simp)) | (simp [*]; done)), H', ⟨by first | omega | exact Nat.le_refl _⟩, ⟨by (with_reducible repeat (first | refine blk_drewN ?_ _ | refine blk_drew ?_ | refine blk_alloc ?_ _)); refine blk_put (cs := #[.slice A262_0 ((rd_T33 l0 (ji2)).f0).length c262_0, .int .i64 ((rd_T33 l0 (ji2)).f1), .int .i64 ((rd_T33 l0 (ji2)).f2), .int .i64 ((rd_T33 l0 (ji2)).f3), .slice A262_4 ((rd_T33 l0 (ji2)).f4).length c262_4, .int .i64 0]) ?_ 5 _ rfl; (with_reducible repeat (first | refine blk_drewN ?_ _ | refine blk_drew ?_ | refine blk_alloc ?_ _)); refine blk_put (cs := #[.slice A262_0 ((rd_T33 l0 (ji2)).f0).length c262_0, .int .i64 ((rd_T33 l0 (ji2)).f1), .int .i64 ((rd_T33 l0 (ji2)).f2), .int .i64 ((rd_T33 l0 (ji2)).f3), .slice none 0 0, .int .i64 0]) ?_ 4 _ rfl; (with_reducible repeat (first | refine blk_drewN ?_ _ | refine blk_drew ?_ | refine blk_alloc ?_ _)); refine blk_put (cs := #[.slice A262_0 ((rd_T33 l0 (ji2)).f0).length c262_0, .int .i64 ((rd_T33 l0 (ji2)).f1), .int .i64 ((rd_T33 l0 (ji2)).f2), .int .i64 0, .slice none 0 0, .int .i64 0]) ?_ 3 _ rfl; (with_reducible repeat (first | refine blk_drewN ?_ _ | refine blk_drew ?_ | refine blk_alloc ?_ _)); refine blk_put (cs := #[.slice A262_0 ((rd_T33 l0 (ji2)).f0).length c262_0, .int .i64 ((rd_T33 l0 (ji2)).f1), .int .i64 0, .int .i64 0, .slice none 0 0, .int .i64 0]) ?_ 2 _ rfl; (with_reducible repeat (first | refine blk_drewN ?_ _ | refine blk_drew ?_ | refine blk_alloc ?_ _)); refine blk_put (cs := #[.slice A262_0 ((rd_T33 l0 (ji2)).f0).length c262_0, .int .i64 0, .int .i64 0, .int .i64 0, .slice none 0 0, .int .i64 0]) ?_ 1 _ rfl; (with_reducible repeat (first | refine blk_drewN ?_ _ | refine blk_drew ?_ | refine blk_alloc ?_ _)); refine blk_put (cs := #[.slice none 0 0, .int .i64 0, .int .i64 0, .int .i64 0, .slice none 0 0, .int .i64 0]) ?_ 0 _ rfl; (with_reducible repeat (first | refine blk_drewN ?_ _ | refine blk_drew ?_ | refine blk_alloc ?_ _)); exact BK263.out⟩, ⟨by repeat (first | (with_reducible first | exact HB.out | apply below_alloc | apply pw_below_drewN | apply below_drew1 | refine below_set ?_ GE263.out) | exact HB.out)⟩⟩
      case rest =>
        clear HC5
        try clear c1
        try clear c2
        try clear p2
        try clear q2
        try clear hx2
        try clear c3
        try clear c3b0
        try clear c4
        try clear c4b0
        try clear p6
        try clear c8
        try clear c8b0
        try clear c8b1
        try clear hcz7_0
        try clear hcz7_1
        try clear hcz7_2
        try clear hcz7_3
        try clear hcz7_4
        try clear hcz7_5
        try clear hcz9_0
        try clear hcz9_1
        try clear hcz9_2
        try clear hcz9_3
        try clear hcz9_4
        try clear hcz9_5
        try clear hfz7_0
        try clear hfz7_1
        try clear hfz7_2
        try clear hfz7_3
        try clear hfz7_4
        try clear hfz7_5
        try clear hfz9_0
        try clear hfz9_1
        try clear hfz9_2
        try clear hfz9_3
        try clear hfz9_4
        try clear hfz9_5
        try clear hx262_0
        try clear hx262_1
        try clear hx262_2
        try clear hx262_3
        try clear hx262_4
        try clear hx262_5
        try clear p262
        try clear q262
        obtain ⟨kq, x19_4, rfl, HA, HJ4, BK263, HB⟩ := hcut
        cases kq with
        | zero => exact absurd HA.out (by simp [impl_nextZeros.j0])
        | succ kj4 =>
          have H := HA.out
          clear HA
          simp only [impl_nextZeros.j0] at H
          by_cases c10 : x19_4 = true
          · subst c10
            have H1 : (some ((rd_T33 l0 (ji2)).f3)) = some r := by rw [if_pos rfl] at H; exact H
            clear H
            have H := H1
            clear H1
            obtain rfl := Option.some.inj H
            have hcz11_0 : wc.cell? ⟨gb263, 0, none⟩ = some (.slice A262_0 ((rd_T33 l0 (wrap64 ((l0.length : Int) - 1))).f0).length c262_0) := (blk_cell BK263.out 0).trans (by first | rfl | (simp only [*] <;> rfl))
            have hcz11_1 : wc.cell? ⟨gb263, 1, none⟩ = some (.int .i64 ((rd_T33 l0 (ji2)).f1)) := (blk_cell BK263.out 1).trans (by first | rfl | (simp only [*] <;> rfl))
            have hcz11_2 : wc.cell? ⟨gb263, 2, none⟩ = some (.int .i64 ((rd_T33 l0 (ji2)).f2)) := (blk_cell BK263.out 2).trans (by first | rfl | (simp only [*] <;> rfl))
            have hcz11_3 : wc.cell? ⟨gb263, 3, none⟩ = some (.int .i64 ((rd_T33 l0 (ji2)).f3)) := (blk_cell BK263.out 3).trans (by first | rfl | (simp only [*] <;> rfl))
            have hcz11_4 : wc.cell? ⟨gb263, 4, none⟩ = some (.slice A262_4 ((rd_T33 l0 (wrap64 ((l0.length : Int) - 1))).f4).length c262_4) := (blk_cell BK263.out 4).trans (by first | rfl | (simp only [*] <;> rfl))
            have hcz11_5 : wc.cell? ⟨gb263, 5, none⟩ = some (.int .i64 ((rd_T33 l0 (ji2)).f5)) := (blk_cell BK263.out 5).trans (by first | rfl | (simp only [*] <;> rfl))
            have hfz11_0 := blk_frozen BK263.out 0
            have hfz11_1 := blk_frozen BK263.out 1
            have hfz11_2 := blk_frozen BK263.out 2
            have hfz11_3 := blk_frozen BK263.out 3
            have hfz11_4 := blk_frozen BK263.out 4
            have hfz11_5 := blk_frozen BK263.out 5
            go_wp2
            repeat (go_quiet (fail); try go_wp2)
            go_ret
            exact ⟨by first | rfl | (simp [errW_none, errW_some] <;> rfl) | (simp only [← hji2]; first | rfl | (simp [errW_none, errW_some] <;> rfl)) | (simp [*, errW_none, errW_some] <;> rfl), by repeat (first | (with_reducible first | exact HB.out | apply below_alloc | apply pw_below_drewN | apply below_drew1 | refine below_set ?_ GE263.out) | exact HB.out)⟩
          · replace c10 := Bool.eq_false_iff.mpr c10
            subst c10
            have H1 : (if 0 ≤ (wrap64 ((wrap64 ((l0.length : Int) - 1)) - 4)) then (if (wrap64 ((wrap64 ((l0.length : Int) - 1)) - 4)) < (l0.length : Int) then (if (wrap64 (((rd_T33 l0 (ji2)).f2) - ((rd_T33 l0 (wrap64 ((wrap64 ((l0.length : Int) - 1)) - 4))).f2))) < 20 then (some (mn (wrap64 (((rd_T33 l0 (ji2)).f3) + 1)) 40)) else (if (wrap64 (((rd_T33 l0 (ji2)).f2) - ((rd_T33 l0 (wrap64 ((wrap64 ((l0.length : Int) - 1)) - 4))).f2))) > 80 then (some (mx (wrap64 (((rd_T33 l0 (ji2)).f3) - 1)) 0)) else (some ((rd_T33 l0 (ji2)).f3)))) else (none)) else (none)) = some r := by rw [if_neg (show ¬ (false = true) by decide)] at H; exact H
            clear H
            have H := H1
            clear H1
            obtain ⟨ji12, hji12⟩ : ∃ j_ : Int, (wrap64 ((wrap64 ((l0.length : Int) - 1)) - 4)) = j_ := ⟨_, rfl⟩
            have hjw12 : IntKind.i64.wrap (ji2 - 4) = ji12 := (i64_w _).trans (by have h_ := hji12; simp only [hji2] at h_; exact h_)
            replace H : (if 0 ≤ (ji12) then (if (ji12) < (l0.length : Int) then (if (wrap64 (((rd_T33 l0 (ji2)).f2) - ((rd_T33 l0 (ji12)).f2))) < 20 then (some (mn (wrap64 (((rd_T33 l0 (ji2)).f3) + 1)) 40)) else (if (wrap64 (((rd_T33 l0 (ji2)).f2) - ((rd_T33 l0 (ji12)).f2))) > 80 then (some (mx (wrap64 (((rd_T33 l0 (ji2)).f3) - 1)) 0)) else (some ((rd_T33 l0 (ji2)).f3)))) else (none)) else (none)) = some r := by first | (rw [hji12] at H; exact H) | (simp only [hji12] at H ⊢; exact H)
            have hji12w : (IntKind.i64.wrap ((wrap64 ((l0.length : Int) - 1)) - 4)) = ji12 := (i64_w _).trans hji12
            by_cases c13 : 0 ≤ (ji12)
            · rw [if_pos c13] at H
              have c13b0 : decide (0 ≤ (ji12)) = true := decide_eq_true c13
              clear c13
              by_cases c14 : (ji12) < (l0.length : Int)
              · rw [if_pos c14] at H
                have c14b0 : decide ((ji12) < (l0.length : Int)) = true := decide_eq_true c14
                clear c14
                by_cases c15 : (wrap64 (((rd_T33 l0 (ji2)).f2) - ((rd_T33 l0 (ji12)).f2))) < 20
                · rw [if_pos c15] at H
                  have c15b0 : decide ((wrap64 (((rd_T33 l0 (ji2)).f2) - ((rd_T33 l0 (ji12)).f2))) < 20) = true := decide_eq_true c15
                  clear c15
                  obtain ⟨ji16, hji16⟩ : ∃ j_ : Int, (mn (wrap64 (((rd_T33 l0 (ji2)).f3) + 1)) 40) = j_ := ⟨_, rfl⟩
                  replace H : (some ji16) = some r := by first | (rw [hji16] at H; exact H) | (simp only [hji16] at H ⊢; exact H)
                  have hji16_ : (if 40 < (wrap64 (((rd_T33 l0 (ji2)).f3) + 1)) then 40 else (wrap64 (((rd_T33 l0 (ji2)).f3) + 1))) = ji16 := hji16
                  obtain rfl := Option.some.inj H
                  have hcz17_0 : wc.cell? ⟨gb263, 0, none⟩ = some (.slice A262_0 ((rd_T33 l0 (wrap64 ((l0.length : Int) - 1))).f0).length c262_0) := (blk_cell BK263.out 0).trans (by first | rfl | (simp only [*] <;> rfl))
                  have hcz17_1 : wc.cell? ⟨gb263, 1, none⟩ = some (.int .i64 ((rd_T33 l0 (ji2)).f1)) := (blk_cell BK263.out 1).trans (by first | rfl | (simp only [*] <;> rfl))
                  have hcz17_2 : wc.cell? ⟨gb263, 2, none⟩ = some (.int .i64 ((rd_T33 l0 (ji2)).f2)) := (blk_cell BK263.out 2).trans (by first | rfl | (simp only [*] <;> rfl))
                  have hcz17_3 : wc.cell? ⟨gb263, 3, none⟩ = some (.int .i64 ((rd_T33 l0 (ji2)).f3)) := (blk_cell BK263.out 3).trans (by first | rfl | (simp only [*] <;> rfl))
                  have hcz17_4 : wc.cell? ⟨gb263, 4, none⟩ = some (.slice A262_4 ((rd_T33 l0 (wrap64 ((l0.length : Int) - 1))).f4).length c262_4) := (blk_cell BK263.out 4).trans (by first | rfl | (simp only [*] <;> rfl))
                  have hcz17_5 : wc.cell? ⟨gb263, 5, none⟩ = some (.int .i64 ((rd_T33 l0 (ji2)).f5)) := (blk_cell BK263.out 5).trans (by first | rfl | (simp only [*] <;> rfl))
                  have hfz17_0 := blk_frozen BK263.out 0
                  have hfz17_1 := blk_frozen BK263.out 1
                  have hfz17_2 := blk_frozen BK263.out 2
                  have hfz17_3 := blk_frozen BK263.out 3
                  have hfz17_4 := blk_frozen BK263.out 4
                  have hfz17_5 := blk_frozen BK263.out 5
                  have p264 : 0 ≤ ((ji12) : Int) := of_decide_eq_true (by first | (with_reducible assumption) | assumption)
                  have q264 : (ji12) < (l0.length : Int) := of_decide_eq_true (by first | (with_reducible assumption) | assumption)
                  obtain ⟨ad264, A264_0, c264_0, A264_4, c264_4, e264, hx264_0, hx264_1, hx264_2, hx264_3, hx264_4, hx264_5, hl264_0, hi264_0, hl264_4, hi264_4⟩ := at_T33 HR0.out (ji12) p264 q264
                  obtain rfl : ad262 = ad264 := (by injection e264)
                  replace hx264_0 := (HB.out.cell (World.block_lt_of_cell? w _ hx264_0)).trans hx264_0
                  replace hx264_1 := (HB.out.cell (World.block_lt_of_cell? w _ hx264_1)).trans hx264_1
                  replace hx264_2 := (HB.out.cell (World.block_lt_of_cell? w _ hx264_2)).trans hx264_2
                  replace hx264_3 := (HB.out.cell (World.block_lt_of_cell? w _ hx264_3)).trans hx264_3
                  replace hx264_4 := (HB.out.cell (World.block_lt_of_cell? w _ hx264_4)).trans hx264_4
                  replace hx264_5 := (HB.out.cell (World.block_lt_of_cell? w _ hx264_5)).trans hx264_5
                  have HR264_0 := Aside0.mk hi264_0
                  have HC264_0 := Aside0.mk hl264_0
                  clear hi264_0 hl264_0
                  have HR264_4 := Aside0.mk hi264_4
                  have HC264_4 := Aside0.mk hl264_4
                  clear hi264_4 hl264_4
                  replace p264 := eq_true p264
                  replace q264 := eq_true q264
                  go_wp2
                  repeat (go_quiet (fail); try go_wp2)
                  go_ret
                  exact ⟨by first | rfl | (simp [errW_none, errW_some] <;> rfl) | (simp only [← hji2, ← hji12, ← hji16]; first | rfl | (simp [errW_none, errW_some] <;> rfl)) | (simp [*, errW_none, errW_some] <;> rfl), by repeat (first | (with_reducible first | exact HB.out | apply below_alloc | apply pw_below_drewN | apply below_drew1 | refine below_set ?_ GE263.out) | exact HB.out)⟩
                · rw [if_neg c15] at H
                  have c15b0 : decide ((wrap64 (((rd_T33 l0 (ji2)).f2) - ((rd_T33 l0 (ji12)).f2))) < 20) = false := decide_eq_false c15
                  clear c15
                  by_cases c18 : (wrap64 (((rd_T33 l0 (ji2)).f2) - ((rd_T33 l0 (ji12)).f2))) > 80
                  · rw [if_pos c18] at H
                    have c18b0 : decide (80 < (wrap64 (((rd_T33 l0 (ji2)).f2) - ((rd_T33 l0 (ji12)).f2)))) = true := decide_eq_true c18
                    clear c18
                    obtain ⟨ji19, hji19⟩ : ∃ j_ : Int, (mx (wrap64 (((rd_T33 l0 (ji2)).f3) - 1)) 0) = j_ := ⟨_, rfl⟩
                    replace H : (some ji19) = some r := by first | (rw [hji19] at H; exact H) | (simp only [hji19] at H ⊢; exact H)
                    have hji19_ : (if (wrap64 (((rd_T33 l0 (ji2)).f3) - 1)) < 0 then 0 else (wrap64 (((rd_T33 l0 (ji2)).f3) - 1))) = ji19 := hji19
                    obtain rfl := Option.some.inj H
                    have hcz20_0 : wc.cell? ⟨gb263, 0, none⟩ = some (.slice A262_0 ((rd_T33 l0 (wrap64 ((l0.length : Int) - 1))).f0).length c262_0) := (blk_cell BK263.out 0).trans (by first | rfl | (simp only [*] <;> rfl))
                    have hcz20_1 : wc.cell? ⟨gb263, 1, none⟩ = some (.int .i64 ((rd_T33 l0 (ji2)).f1)) := (blk_cell BK263.out 1).trans (by first | rfl | (simp only [*] <;> rfl))
                    have hcz20_2 : wc.cell? ⟨gb263, 2, none⟩ = some (.int .i64 ((rd_T33 l0 (ji2)).f2)) := (blk_cell BK263.out 2).trans (by first | rfl | (simp only [*] <;> rfl))
                    have hcz20_3 : wc.cell? ⟨gb263, 3, none⟩ = some (.int .i64 ((rd_T33 l0 (ji2)).f3)) := (blk_cell BK263.out 3).trans (by first | rfl | (simp only [*] <;> rfl))
                    have hcz20_4 : wc.cell? ⟨gb263, 4, none⟩ = some (.slice A262_4 ((rd_T33 l0 (wrap64 ((l0.length : Int) - 1))).f4).length c262_4) := (blk_cell BK263.out 4).trans (by first | rfl | (simp only [*] <;> rfl))
                    have hcz20_5 : wc.cell? ⟨gb263, 5, none⟩ = some (.int .i64 ((rd_T33 l0 (ji2)).f5)) := (blk_cell BK263.out 5).trans (by first | rfl | (simp only [*] <;> rfl))
                    have hfz20_0 := blk_frozen BK263.out 0
                    have hfz20_1 := blk_frozen BK263.out 1
                    have hfz20_2 := blk_frozen BK263.out 2
                    have hfz20_3 := blk_frozen BK263.out 3
                    have hfz20_4 := blk_frozen BK263.out 4
                    have hfz20_5 := blk_frozen BK263.out 5
                    have p264 : 0 ≤ ((ji12) : Int) := of_decide_eq_true (by first | (with_reducible assumption) | assumption)
                    have q264 : (ji12) < (l0.length : Int) := of_decide_eq_true (by first | (with_reducible assumption) | assumption)
                    obtain ⟨ad264, A264_0, c264_0, A264_4, c264_4, e264, hx264_0, hx264_1, hx264_2, hx264_3, hx264_4, hx264_5, hl264_0, hi264_0, hl264_4, hi264_4⟩ := at_T33 HR0.out (ji12) p264 q264
                    obtain rfl : ad262 = ad264 := (by injection e264)
                    replace hx264_0 := (HB.out.cell (World.block_lt_of_cell? w _ hx264_0)).trans hx264_0
                    replace hx264_1 := (HB.out.cell (World.block_lt_of_cell? w _ hx264_1)).trans hx264_1
                    replace hx264_2 := (HB.out.cell (World.block_lt_of_cell? w _ hx264_2)).trans hx264_2
                    replace hx264_3 := (HB.out.cell (World.block_lt_of_cell? w _ hx264_3)).trans hx264_3
                    replace hx264_4 := (HB.out.cell (World.block_lt_of_cell? w _ hx264_4)).trans hx264_4
                    replace hx264_5 := (HB.out.cell (World.block_lt_of_cell? w _ hx264_5)).trans hx264_5
                    have HR264_0 := Aside0.mk hi264_0
                    have HC264_0 := Aside0.mk hl264_0
                    clear hi264_0 hl264_0
                    have HR264_4 := Aside0.mk hi264_4
                    have HC264_4 := Aside0.mk hl264_4
                    clear hi264_4 hl264_4
                    replace p264 := eq_true p264
                    replace q264 := eq_true q264
                    go_wp2
                    repeat (go_quiet (fail); try go_wp2)
                    go_ret
                    exact ⟨by first | rfl | (simp [errW_none, errW_some] <;> rfl) | (simp only [← hji2, ← hji12, ← hji19]; first | rfl | (simp [errW_none, errW_some] <;> rfl)) | (simp [*, errW_none, errW_some] <;> rfl), by repeat (first | (with_reducible first | exact HB.out | apply below_alloc | apply pw_below_drewN | apply below_drew1 | refine below_set ?_ GE263.out) | exact HB.out)⟩
                  · rw [if_neg c18] at H
                    have c18b0 : decide (80 < (wrap64 (((rd_T33 l0 (ji2)).f2) - ((rd_T33 l0 (ji12)).f2)))) = false := decide_eq_false c18
                    clear c18
                    obtain rfl := Option.some.inj H
                    have hcz21_0 : wc.cell? ⟨gb263, 0, none⟩ = some (.slice A262_0 ((rd_T33 l0 (wrap64 ((l0.length : Int) - 1))).f0).length c262_0) := (blk_cell BK263.out 0).trans (by first | rfl | (simp only [*] <;> rfl))
                    have hcz21_1 : wc.cell? ⟨gb263, 1, none⟩ = some (.int .i64 ((rd_T33 l0 (ji2)).f1)) := (blk_cell BK263.out 1).trans (by first | rfl | (simp only [*] <;> rfl))
                    have hcz21_2 : wc.cell? ⟨gb263, 2, none⟩ = some (.int .i64 ((rd_T33 l0 (ji2)).f2)) := (blk_cell BK263.out 2).trans (by first | rfl | (simp only [*] <;> rfl))
                    have hcz21_3 : wc.cell? ⟨gb263, 3, none⟩ = some (.int .i64 ((rd_T33 l0 (ji2)).f3)) := (blk_cell BK263.out 3).trans (by first | rfl | (simp only [*] <;> rfl))
                    have hcz21_4 : wc.cell? ⟨gb263, 4, none⟩ = some (.slice A262_4 ((rd_T33 l0 (wrap64 ((l0.length : Int) - 1))).f4).length c262_4) := (blk_cell BK263.out 4).trans (by first | rfl | (simp only [*] <;> rfl))
                    have hcz21_5 : wc.cell? ⟨gb263, 5, none⟩ = some (.int .i64 ((rd_T33 l0 (ji2)).f5)) := (blk_cell BK263.out 5).trans (by first | rfl | (simp only [*] <;> rfl))
                    have hfz21_0 := blk_frozen BK263.out 0
                    have hfz21_1 := blk_frozen BK263.out 1
                    have hfz21_2 := blk_frozen BK263.out 2
                    have hfz21_3 := blk_frozen BK263.out 3
                    have hfz21_4 := blk_frozen BK263.out 4
                    have hfz21_5 := blk_frozen BK263.out 5
                    have p264 : 0 ≤ ((ji12) : Int) := of_decide_eq_true (by first | (with_reducible assumption) | assumption)
                    have q264 : (ji12) < (l0.length : Int) := of_decide_eq_true (by first | (with_reducible assumption) | assumption)
                    obtain ⟨ad264, A264_0, c264_0, A264_4, c264_4, e264, hx264_0, hx264_1, hx264_2, hx264_3, hx264_4, hx264_5, hl264_0, hi264_0, hl264_4, hi264_4⟩ := at_T33 HR0.out (ji12) p264 q264
                    obtain rfl : ad262 = ad264 := (by injection e264)
                    replace hx264_0 := (HB.out.cell (World.block_lt_of_cell? w _ hx264_0)).trans hx264_0
                    replace hx264_1 := (HB.out.cell (World.block_lt_of_cell? w _ hx264_1)).trans hx264_1
                    replace hx264_2 := (HB.out.cell (World.block_lt_of_cell? w _ hx264_2)).trans hx264_2
                    replace hx264_3 := (HB.out.cell (World.block_lt_of_cell? w _ hx264_3)).trans hx264_3
                    replace hx264_4 := (HB.out.cell (World.block_lt_of_cell? w _ hx264_4)).trans hx264_4
                    replace hx264_5 := (HB.out.cell (World.block_lt_of_cell? w _ hx264_5)).trans hx264_5
                    have HR264_0 := Aside0.mk hi264_0
                    have HC264_0 := Aside0.mk hl264_0
                    clear hi264_0 hl264_0
                    have HR264_4 := Aside0.mk hi264_4
                    have HC264_4 := Aside0.mk hl264_4
                    clear hi264_4 hl264_4
                    replace p264 := eq_true p264
                    replace q264 := eq_true q264
                    go_wp2
                    repeat (go_quiet (fail); try go_wp2)
                    go_ret
                    exact ⟨by first | rfl | (simp [errW_none, errW_some] <;> rfl) | (simp only [← hji2, ← hji12]; first | rfl | (simp [errW_none, errW_some] <;> rfl)) | (simp [*, errW_none, errW_some] <;> rfl), by repeat (first | (with_reducible first | exact HB.out | apply below_alloc | apply pw_below_drewN | apply below_drew1 | refine below_set ?_ GE263.out) | exact HB.out)⟩
              · rw [if_neg c14] at H
                exact absurd H (by simp)
            · rw [if_neg c13] at H
              exact absurd H (by simp)
    · rw [if_neg c4] at H
      exact absurd H (by simp)
  · rw [if_neg c3] at H
    exact absurd H (by simp)

end Go.Proofs.Ytmmhghddldhogaa.S
