/- impl.sign and impl.SignMessage: the parts' memory lies at or above one block, the path's below it. The walks are the printer's, with that told. No condition beyond those in the statements. -/
import Derived.Test.YtchmaojmknfbpaaSx0
import Derived.Test.YtchmaojmknfbpaaSxImplSignMessage
import Derived.Test.YtchmaojmknfbpaaSxImplSignY
import Derived.Test.YtchmaojmknfbpaaSxImplProveLeafY
import Derived.Test.YtchmaojmknfbpaaSxImplKeys
import Derived.Test.YtchmaojmknfbpaaSxImplDigitsOf
import Derived.Test.YtchmaojmknfbpaaSxImplSmall
set_option linter.unusedVariables false
set_option linter.unusedSimpArgs false
namespace Go.Proofs.Ytchmaojmknfbpaa.S
open Go.RowKit Go.Proofs.YtchmaojmknfbpaaW.PrintWords Go.Proofs.YtchmaojmknfbpaaW.PrintLast Go.Proofs.YtchmaojmknfbpaaW.PrintMore
attribute [local go_sem] max2_int min2_int max_two min_two max_three min_three max_four min_four
set_option maxHeartbeats 8000000 in
set_option maxRecDepth 100000 in
theorem impl_sign.callsG (k : Nat) (A0 : Option Addr) (c0 : Nat) (l0 : List Int) (a1 : Int) (A2 : Option Addr) (c2 : Nat) (l2 : List Int) (r1 : Int) (r2 : List (List Int)) (r3 : Int) (r4 : Int) (r5 : List (List Int)) (w : World) (hr0 : Kd.C (Kd.int .u8) w A0 l0.length l0) (hc0 : l0.length ≤ c0) (hr2 : Kd.C (Kd.int .u8) w A2 l2.length l2) (hc2 : l2.length ≤ c2) (h : impl_sign.f k l0 a1 l2 = some (r1, r2, r3, r4, r5)) :
    Calls Try.prog 35 #[.slice A0 l0.length c0, .int .i64 a1, .slice A2 l2.length c2] w fun e w' => ∃ (m_ : Nat) (v1_ v4_ : Value), e = .returned (.agg #[.int .i64 r1, v1_, .int .i64 r3, .int .i64 r4, v4_]) ∧ w.heap.size ≤ m_ ∧ Kd.S (Kd.slice 5 (Kd.int .u8)) 22 w' m_ (fun k_ => some k_ ≠ (v4_ : Value).ownBlock) v1_ r2 ∧ Kd.S (Kd.slice 5 (Kd.int .u8)) 22 w' w.heap.size (fun k_ => some k_ ≠ (v1_ : Value).ownBlock ∧ k_ < m_) v4_ r5 ∧ Below w.heap.size w w' := by
  have hu27 := Try.underlying27
  have HR0 := Aside0.mk hr0
  have HC0 := Aside0.mk hc0
  clear hr0 hc0
  have HR2 := Aside0.mk hr2
  have HC2 := Aside0.mk hc2
  clear hr2 hc2
  have HB := Aside0.mk (Below.refl w.heap.size w)
  have H : ((impl_publicLeaves.f k l0).bind fun t646 => ((impl_proveLeaf.f k t646 a1).bind fun bt649 => ((impl_DigitsOf.f k l2).bind fun t655 => (impl_sign.l0 k l0 a1 t655 (t655.length : Int) 0 a1 ([] : List (List Int)) bt649.1 bt649.2.1 bt649.2.2)))) = some (r1, r2, r3, r4, r5) := h
  clear h
  replace H := Option.bind_eq_some_iff.mp H
  obtain ⟨t646, A40, H⟩ := H
  replace H : ((impl_proveLeaf.f k t646 a1).bind fun bt649 => ((impl_DigitsOf.f k l2).bind fun t655 => (impl_sign.l0 k l0 a1 t655 (t655.length : Int) 0 a1 ([] : List (List Int)) bt649.1 bt649.2.1 bt649.2.2))) = some (r1, r2, r3, r4, r5) := H
  have A4 := Aside0.mk A40
  clear A40
  replace H := Option.bind_eq_some_iff.mp H
  obtain ⟨⟨t649, t650, t651⟩, A50, H⟩ := H
  replace H : ((impl_DigitsOf.f k l2).bind fun t655 => (impl_sign.l0 k l0 a1 t655 (t655.length : Int) 0 a1 ([] : List (List Int)) t649 t650 t651)) = some (r1, r2, r3, r4, r5) := H
  have A5 := Aside0.mk A50
  clear A50
  replace H := Option.bind_eq_some_iff.mp H
  obtain ⟨t655, A60, H⟩ := H
  replace H : (impl_sign.l0 k l0 a1 t655 (t655.length : Int) 0 a1 ([] : List (List Int)) t649 t650 t651) = some (r1, r2, r3, r4, r5) := H
  have A6 := Aside0.mk A60
  clear A60
  have H' := Aside0.mk H
  clear H
  go_enter Try.func35, Try.ntmps35
  go_wp2_with (first | ((with_reducible refine gate_dst (N := 6) rfl ?_); refine box_event ?hg (N := 6) ?hd (cs := #[.int .i64 0, .slice none 0 0, .int .i64 0, .int .i64 0, .slice none 0 0]) (t := 27) ?hr ?_; (case hd => rfl); (case hg => rfl); (case hr => first | (go_simp; done) | (go_simp; rfl)); intro gb645 hg w7 hbox hb; have n0_ := Aside0.mk (below_step (by repeat (first | (with_reducible first | exact HB.out | apply below_alloc | apply pw_below_drewN | apply below_drew1) | exact HB.out)) hb); have n1_ := Aside0.mk (hbox); have n2_ := Aside0.mk ((by rw [hg]; exact (below_size (by repeat (first | (with_reducible first | exact HB.out | apply below_alloc | apply pw_below_drewN | apply below_drew1) | exact HB.out))) : w.heap.size ≤ gb645)); have n3_ := Aside0.mk ((by rw [hg]; exact (below_size (by repeat (first | (with_reducible first | exact HB.out | apply below_alloc | apply pw_below_drewN | apply below_drew1) | exact HB.out))) : w.heap.size ≤ gb645)); clear HB; have HB := n0_; have BK645 := n1_; have GW645 := n2_; have GE645 := n3_; clear n0_ n1_ n2_ n3_; clear hb hbox hg) | ((with_reducible refine gate_callee (f := 69) rfl ?_); refine goesL_ (some 12) rfl rfl Try.func69 (by kernel_rfl) rfl #[.slice A0 l0.length c0] rfl (by (try simp only [List.map_toArray, List.map_cons, List.map_nil]); first | done | rfl | (simp only [List.length_drop, List.length_take]; rfl)) ?_; (with_reducible refine (impl_publicLeaves.calls k _ _ l0 t646 _ ?side1 ?side2 A4.out).mono ?_); (case side1 => repeat (first | exact (Kd.C_below HR0.out HB.out) | (with_reducible refine Kd.C_alloc ?_ _) | (with_reducible refine Kd.C_drewN ?_ _) | (with_reducible refine Kd.C_drew ?_))); (case side2 => exact HC0.out); rintro e w8 ⟨v647, rfl, ho0, hb⟩; refine ⟨_, rfl, ?_⟩; have n0_ := Aside0.mk (Kd.S_lower ho0 (below_size (by repeat (first | (with_reducible first | exact HB.out | apply below_alloc | apply pw_below_drewN | apply below_drew1 | refine below_set ?_ GE645.out) | exact HB.out)))); have n1_ := Aside0.mk (blk_below (g := gb645) (o := .cells #[.int .i64 0, .slice none 0 0, .int .i64 0, .int .i64 0, .slice none 0 0] 27 (0, 0)) (by (with_reducible repeat (first | refine blk_drewN ?_ _ | refine blk_drew ?_ | refine blk_alloc ?_ _)); exact BK645.out) hb); have n2_ := Aside0.mk (below_step (by repeat (first | (with_reducible first | exact HB.out | apply below_alloc | apply pw_below_drewN | apply below_drew1 | refine below_set ?_ GE645.out) | exact HB.out)) hb); clear BK645; clear HB; have HO648 := n0_; have BK645 := n1_; have HB := n2_; clear n0_ n1_ n2_; (try clear hb); (try clear hb2); (try clear hk); (try clear hi); (try clear ho0); obtain ⟨Ao9, co9, eo9⟩ := Kd.S_slice HO648.out; subst eo9) | ((with_reducible refine gate_callee (f := 68) rfl ?_); refine goesL_ (some 14) rfl rfl Try.func68 (by kernel_rfl) rfl #[.slice Ao9 t646.length co9, .int .i64 a1] rfl (by (try simp only [List.map_toArray, List.map_cons, List.map_nil]); first | done | rfl | (simp only [List.length_drop, List.length_take]; rfl)) ?_; (with_reducible refine (impl_proveLeaf.calls k _ _ t646 a1 t649 t650 t651 _ ?side1 ?side2 A5.out).mono ?_); (case side1 => repeat (first | exact (Kd.S_reads' HO648.out).2.2 | (with_reducible refine Kd.C_alloc ?_ _) | (with_reducible refine Kd.C_drewN ?_ _) | (with_reducible refine Kd.C_drew ?_))); (case side2 => exact (Kd.S_reads' HO648.out).2.1); rintro e w10 ⟨v652, rfl, ho0, hb⟩; refine ⟨_, rfl, ?_⟩; have n0_ := Aside0.mk (Kd.S_elder' (by (with_reducible repeat (first | apply Kd.S_alloc | apply Kd.S_drewN | apply Kd.S_drew)); exact HO648.out) (Kd.S_base ho0) hb); have n1_ := Aside0.mk (Kd.S_mono (Kd.S_bound (Kd.S_lower (Kd.S_new' ho0 (Kd.S_lt (by (with_reducible repeat (first | apply Kd.S_alloc | apply Kd.S_drewN | apply Kd.S_drew)); exact HO648.out))) (below_size (by repeat (first | (with_reducible first | exact HB.out | apply below_alloc | apply pw_below_drewN | apply below_drew1 | refine below_set ?_ GE645.out) | exact HB.out))))) (ok' := fun k_ => some k_ ≠ (.slice Ao9 t646.length co9 : Value).ownBlock ∧ k_ < w10.heap.size) (fun _ hk => ⟨hk.1.2, hk.2.2.1⟩)); have n2_ := Aside0.mk (blk_below (g := gb645) (o := .cells #[.int .i64 0, .slice none 0 0, .int .i64 0, .int .i64 0, .slice none 0 0] 27 (0, 0)) (by (with_reducible repeat (first | refine blk_drewN ?_ _ | refine blk_drew ?_ | refine blk_alloc ?_ _)); exact BK645.out) hb); have n3_ := Aside0.mk (below_step (by repeat (first | (with_reducible first | exact HB.out | apply below_alloc | apply pw_below_drewN | apply below_drew1 | refine below_set ?_ GE645.out) | exact HB.out)) hb); clear HO648; clear BK645; clear HB; have HO648 := n0_; have HO653 := n1_; have BK645 := n2_; have HB := n3_; have HB10 := n3_; have HM := Aside0.mk (Below.refl w10.heap.size w10); clear n0_ n1_ n2_ n3_; (try clear hb); (try clear hb2); (try clear hk); (try clear hi); (try clear ho0); obtain ⟨Ao11, co11, eo11⟩ := Kd.S_slice HO653.out; subst eo11) | ((with_reducible refine gate_dst (N := 7) rfl ?_); refine box_event ?hg (N := 7) ?hd (cs := #[.int .i64 0, .slice none 0 0, .int .i64 0, .int .i64 0, .slice none 0 0]) (t := 27) ?hr ?_; (case hd => rfl); (case hg => rfl); (case hr => first | (go_simp; done) | (go_simp; rfl)); intro gb654 hg w12 hbox hb; have n0_ := Aside0.mk (Kd.S_below (by (with_reducible repeat (first | apply Kd.S_alloc | apply Kd.S_drewN | apply Kd.S_drew)); exact HO648.out) hb); have n1_ := Aside0.mk (Kd.S_below (by (with_reducible repeat (first | apply Kd.S_alloc | apply Kd.S_drewN | apply Kd.S_drew)); exact HO653.out) hb); have n2_ := Aside0.mk (blk_below (g := gb645) (o := .cells #[.int .i64 0, .slice none 0 0, .int .i64 0, .int .i64 0, .slice none 0 0] 27 (0, 0)) (by (with_reducible repeat (first | refine blk_drewN ?_ _ | refine blk_drew ?_ | refine blk_alloc ?_ _)); exact BK645.out) hb); have n3_ := Aside0.mk (below_step (by repeat (first | (with_reducible first | exact HB.out | apply below_alloc | apply pw_below_drewN | apply below_drew1 | refine below_set ?_ GE645.out) | exact HB.out)) hb); have GM654 := Aside0.mk ((by rw [hg]; exact (below_size (by repeat (first | (with_reducible first | exact HM.out | apply below_alloc | apply pw_below_drewN | apply below_drew1) | exact HM.out)))) : w10.heap.size ≤ gb654); replace HM := Aside0.mk (below_step (by repeat (first | (with_reducible first | exact HM.out | apply below_alloc | apply pw_below_drewN | apply below_drew1) | exact HM.out)) hb); have n4_ := Aside0.mk (hbox); have n5_ := Aside0.mk ((by rw [hg]; exact (below_size (by repeat (first | (with_reducible first | exact HB.out | apply below_alloc | apply pw_below_drewN | apply below_drew1 | refine below_set ?_ GE645.out) | exact HB.out))) : w.heap.size ≤ gb654)); have n6_ := Aside0.mk ((by rw [hg]; exact (below_size (by repeat (first | (with_reducible first | exact HB.out | apply below_alloc | apply pw_below_drewN | apply below_drew1 | refine below_set ?_ GE645.out) | exact HB.out))) : w.heap.size ≤ gb654)); have n7_ := Aside0.mk ((by rw [hg]; exact Nat.ne_of_lt (blk_lt (g := gb645) (o := .cells #[.int .i64 0, .slice none 0 0, .int .i64 0, .int .i64 0, .slice none 0 0] 27 (0, 0)) (by (with_reducible repeat (first | refine blk_drewN ?_ _ | refine blk_drew ?_ | refine blk_alloc ?_ _)); exact BK645.out)) : gb645 ≠ gb654)); have n8_ := Aside0.mk ((by rw [hg]; exact Nat.ne_of_gt (blk_lt (g := gb645) (o := .cells #[.int .i64 0, .slice none 0 0, .int .i64 0, .int .i64 0, .slice none 0 0] 27 (0, 0)) (by (with_reducible repeat (first | refine blk_drewN ?_ _ | refine blk_drew ?_ | refine blk_alloc ?_ _)); exact BK645.out)) : gb654 ≠ gb645)); clear HO648; clear HO653; clear BK645; clear HB; have HO648 := n0_; have HO653 := n1_; have BK645 := n2_; have HB := n3_; have BK654 := n4_; have GW654 := n5_; have GE654 := n6_; have NB645_654 := n7_; have NB654_645 := n8_; clear n0_ n1_ n2_ n3_ n4_ n5_ n6_ n7_ n8_; clear hb hbox hg; have hnb13 := NB654_645.out; have hnc13 := NB645_654.out; have hcz14_0 : w12.cell? ⟨gb654, 0, none⟩ = some (.int .i64 0) := (blk_cell BK654.out 0).trans (by first | rfl | (simp only [*] <;> rfl)); have hcz14_1 : w12.cell? ⟨gb654, 1, none⟩ = some (.slice none 0 0) := (blk_cell BK654.out 1).trans (by first | rfl | (simp only [*] <;> rfl)); have hcz14_2 : w12.cell? ⟨gb654, 2, none⟩ = some (.int .i64 0) := (blk_cell BK654.out 2).trans (by first | rfl | (simp only [*] <;> rfl)); have hcz14_3 : w12.cell? ⟨gb654, 3, none⟩ = some (.int .i64 0) := (blk_cell BK654.out 3).trans (by first | rfl | (simp only [*] <;> rfl)); have hcz14_4 : w12.cell? ⟨gb654, 4, none⟩ = some (.slice none 0 0) := (blk_cell BK654.out 4).trans (by first | rfl | (simp only [*] <;> rfl)); have hfz14_0 := blk_frozen BK654.out 0; have hfz14_1 := blk_frozen BK654.out 1; have hfz14_2 := blk_frozen BK654.out 2; have hfz14_3 := blk_frozen BK654.out 3; have hfz14_4 := blk_frozen BK654.out 4) | ((with_reducible refine gate_store (t := 27) (p := 7) rfl ?_); refine store_event (t := 27) (p := 7) (v := ?vo_w15) (w1 := (((((w12.setCell ⟨gb654, 0, none⟩ (.int .i64 a1)).setCell ⟨gb654, 1, none⟩ (.slice none 0 0)).setCell ⟨gb654, 2, none⟩ (.int .i64 t649)).setCell ⟨gb654, 3, none⟩ (.int .i64 t650)).setCell ⟨gb654, 4, none⟩ (.slice Ao11 t651.length co11))) ?hg ?ho ?hn ?hr ?_; (case ho => rfl); (case hg => rfl); (case hn => rfl); (case hr => first | (go_simp; done) | (go_simp; rfl)); intro w15 hw; have n0_ : Aside0 (Kd.S (Kd.slice 5 (Kd.int .u8)) 22 w15 w.heap.size (fun k_ => some k_ ≠ (.slice Ao11 t651.length co11 : Value).ownBlock) (.slice Ao9 t646.length co9) t646) := ⟨(by rw [hw]; exact (by (with_reducible repeat (first | apply Kd.S_alloc | apply Kd.S_drewN | apply Kd.S_drew)); exact Kd.S_mono (Kd.S_far (p := ⟨gb654, 4, none⟩) (Kd.S_far (p := ⟨gb654, 3, none⟩) (Kd.S_far (p := ⟨gb654, 2, none⟩) (Kd.S_far (p := ⟨gb654, 1, none⟩) (Kd.S_far (p := ⟨gb654, 0, none⟩) (Kd.S_types HO648.out BK654.out (by decide)) (fun _ hk => hk.2) (.int .i64 a1)) (fun _ hk => hk.2) (.slice none 0 0)) (fun _ hk => hk.2) (.int .i64 t649)) (fun _ hk => hk.2) (.int .i64 t650)) (fun _ hk => hk.2) (.slice Ao11 t651.length co11)) (fun _ hk => hk.1.2)))⟩; have n1_ : Aside0 (Kd.S (Kd.slice 5 (Kd.int .u8)) 22 w15 w.heap.size (fun k_ => some k_ ≠ (.slice Ao9 t646.length co9 : Value).ownBlock ∧ k_ < w10.heap.size) (.slice Ao11 t651.length co11) t651) := ⟨(by rw [hw]; exact (by (with_reducible repeat (first | apply Kd.S_alloc | apply Kd.S_drewN | apply Kd.S_drew)); exact Kd.S_mono (Kd.S_far (p := ⟨gb654, 4, none⟩) (Kd.S_far (p := ⟨gb654, 3, none⟩) (Kd.S_far (p := ⟨gb654, 2, none⟩) (Kd.S_far (p := ⟨gb654, 1, none⟩) (Kd.S_far (p := ⟨gb654, 0, none⟩) (Kd.S_types HO653.out BK654.out (by decide)) (fun _ hk => hk.2) (.int .i64 a1)) (fun _ hk => hk.2) (.slice none 0 0)) (fun _ hk => hk.2) (.int .i64 t649)) (fun _ hk => hk.2) (.int .i64 t650)) (fun _ hk => hk.2) (.slice Ao11 t651.length co11)) (fun _ hk => hk.1)))⟩; have n2_ : Aside0 (w15.heap[gb645]? = some (.cells #[.int .i64 0, .slice none 0 0, .int .i64 0, .int .i64 0, .slice none 0 0] 27 (0, 0))) := ⟨(by rw [hw]; exact (by (with_reducible repeat (first | refine blk_drewN ?_ _ | refine blk_drew ?_ | refine blk_alloc ?_ _)); refine blk_far ?_ NB645_654.out _; (with_reducible repeat (first | refine blk_drewN ?_ _ | refine blk_drew ?_ | refine blk_alloc ?_ _)); refine blk_far ?_ NB645_654.out _; (with_reducible repeat (first | refine blk_drewN ?_ _ | refine blk_drew ?_ | refine blk_alloc ?_ _)); refine blk_far ?_ NB645_654.out _; (with_reducible repeat (first | refine blk_drewN ?_ _ | refine blk_drew ?_ | refine blk_alloc ?_ _)); refine blk_far ?_ NB645_654.out _; (with_reducible repeat (first | refine blk_drewN ?_ _ | refine blk_drew ?_ | refine blk_alloc ?_ _)); refine blk_far ?_ NB645_654.out _; (with_reducible repeat (first | refine blk_drewN ?_ _ | refine blk_drew ?_ | refine blk_alloc ?_ _)); exact BK645.out))⟩; have n3_ : Aside0 (w15.heap[gb654]? = some (.cells #[.int .i64 a1, .slice none 0 0, .int .i64 t649, .int .i64 t650, .slice Ao11 t651.length co11] 27 (0, 0))) := ⟨(by rw [hw]; exact (by (with_reducible repeat (first | refine blk_drewN ?_ _ | refine blk_drew ?_ | refine blk_alloc ?_ _)); refine blk_put (cs := #[.int .i64 a1, .slice none 0 0, .int .i64 t649, .int .i64 t650, .slice none 0 0]) ?_ 4 _ rfl; (with_reducible repeat (first | refine blk_drewN ?_ _ | refine blk_drew ?_ | refine blk_alloc ?_ _)); refine blk_put (cs := #[.int .i64 a1, .slice none 0 0, .int .i64 t649, .int .i64 0, .slice none 0 0]) ?_ 3 _ rfl; (with_reducible repeat (first | refine blk_drewN ?_ _ | refine blk_drew ?_ | refine blk_alloc ?_ _)); refine blk_put (cs := #[.int .i64 a1, .slice none 0 0, .int .i64 0, .int .i64 0, .slice none 0 0]) ?_ 2 _ rfl; (with_reducible repeat (first | refine blk_drewN ?_ _ | refine blk_drew ?_ | refine blk_alloc ?_ _)); refine blk_put (cs := #[.int .i64 a1, .slice none 0 0, .int .i64 0, .int .i64 0, .slice none 0 0]) ?_ 1 _ rfl; (with_reducible repeat (first | refine blk_drewN ?_ _ | refine blk_drew ?_ | refine blk_alloc ?_ _)); refine blk_put (cs := #[.int .i64 0, .slice none 0 0, .int .i64 0, .int .i64 0, .slice none 0 0]) ?_ 0 _ rfl; (with_reducible repeat (first | refine blk_drewN ?_ _ | refine blk_drew ?_ | refine blk_alloc ?_ _)); exact BK654.out))⟩; have n4_ : Aside0 (Below w.heap.size w w15) := ⟨(by rw [hw]; exact (by repeat (first | (with_reducible first | exact HB.out | apply below_alloc | apply pw_below_drewN | apply below_drew1 | refine below_set ?_ GE645.out | refine below_set ?_ GE654.out) | exact HB.out)))⟩; replace HM : Aside0 (Below w10.heap.size w10 w15) := ⟨(by rw [hw]; exact (by repeat (first | (with_reducible first | exact HM.out | apply below_alloc | apply pw_below_drewN | apply below_drew1 | refine below_set ?_ GM654.out) | exact HM.out)))⟩; clear hw; clear HO648; clear HO653; clear BK645; clear BK654; clear HB; have HO648 := n0_; have HO653 := n1_; have BK645 := n2_; have BK654 := n3_; have HB := n4_; clear n0_ n1_ n2_ n3_ n4_) | ((with_reducible refine gate_callee (f := 70) rfl ?_); refine goesL_ (some 17) rfl rfl Try.func70 (by kernel_rfl) rfl #[.slice A2 l2.length c2] rfl (by (try simp only [List.map_toArray, List.map_cons, List.map_nil]); first | done | rfl | (simp only [List.length_drop, List.length_take]; rfl)) ?_; (with_reducible refine (impl_DigitsOf.calls k (fun k_ => k_ < w.heap.size) _ _ l2 t655 _ ?side1 A6.out).mono ?_); (case side1 => exact Kd.V_mk HC2.out (Kd.F_below (Kd.C_F (Kd.heap_int .u8) HR2.out) (by repeat (first | (with_reducible first | exact HB.out | apply below_alloc | apply pw_below_drewN | apply below_drew1 | refine below_set ?_ GE645.out | refine below_set ?_ GE654.out) | exact HB.out)))); rintro e w16 ⟨v656, rfl, ho0, hb⟩; refine ⟨_, rfl, ?_⟩; have n0_ := Aside0.mk (Kd.S_below (by (with_reducible repeat (first | apply Kd.S_alloc | apply Kd.S_drewN | apply Kd.S_drew)); exact HO648.out) hb); have n1_ := Aside0.mk (Kd.S_below (by (with_reducible repeat (first | apply Kd.S_alloc | apply Kd.S_drewN | apply Kd.S_drew)); exact HO653.out) hb); have n2_ := Aside0.mk (Kd.R_lower (Kd.R_mono (ok' := fun k_ => True) ho0 (fun _ hk_ => trivial)) (below_size (by repeat (first | (with_reducible first | exact HB.out | apply below_alloc | apply pw_below_drewN | apply below_drew1 | refine below_set ?_ GE645.out | refine below_set ?_ GE654.out) | exact HB.out)))); have n3_ := Aside0.mk (blk_below (g := gb645) (o := .cells #[.int .i64 0, .slice none 0 0, .int .i64 0, .int .i64 0, .slice none 0 0] 27 (0, 0)) (by (with_reducible repeat (first | refine blk_drewN ?_ _ | refine blk_drew ?_ | refine blk_alloc ?_ _)); exact BK645.out) hb); have n4_ := Aside0.mk (blk_below (g := gb654) (o := .cells #[.int .i64 a1, .slice none 0 0, .int .i64 t649, .int .i64 t650, .slice Ao11 t651.length co11] 27 (0, 0)) (by (with_reducible repeat (first | refine blk_drewN ?_ _ | refine blk_drew ?_ | refine blk_alloc ?_ _)); exact BK654.out) hb); have n5_ := Aside0.mk (below_step (by repeat (first | (with_reducible first | exact HB.out | apply below_alloc | apply pw_below_drewN | apply below_drew1 | refine below_set ?_ GE645.out | refine below_set ?_ GE654.out) | exact HB.out)) hb); replace HM := Aside0.mk (below_step (by repeat (first | (with_reducible first | exact HM.out | apply below_alloc | apply pw_below_drewN | apply below_drew1 | refine below_set ?_ GM654.out) | exact HM.out)) hb); clear HO648; clear HO653; clear BK645; clear BK654; clear HB; have HO648 := n0_; have HO653 := n1_; have HO657 := n2_; have BK645 := n3_; have BK654 := n4_; have HB := n5_; clear n0_ n1_ n2_ n3_ n4_ n5_; (try clear hb); (try clear hb2); (try clear hk); (try clear hi); (try clear ho0); obtain ⟨Ao17, co17, eo17⟩ := Kd.R_slice HO657.out; subst eo17))
  go_loopg [19] k (fun kq v19 w' => ∃ (x19_1 : Int) (x655001_1 : List (List Int)) (u655001 : Value), v19 = .int .i64 x19_1 ∧ Aside0 (impl_sign.l0 kq l0 a1 t655 (t655.length : Int) x19_1 a1 x655001_1 t649 t650 t651 = some (r1, r2, r3, r4, r5)) ∧ Aside0 (kq ≤ k) ∧ Aside0 (Kd.R (Kd.int .i64) 2 w' w.heap.size (fun _ => True) (.slice Ao17 t655.length co17) t655) ∧ Aside0 (Kd.S (Kd.slice 5 (Kd.int .u8)) 22 w' w10.heap.size (fun k_ => some k_ ≠ ((.slice Ao11 t651.length co11) : Value).ownBlock) u655001 x655001_1) ∧ Aside0 (Kd.S (Kd.slice 5 (Kd.int .u8)) 22 w' w.heap.size (fun k_ => some k_ ≠ (u655001 : Value).ownBlock ∧ k_ < w10.heap.size) (.slice Ao11 t651.length co11) t651) ∧ Aside0 (w'.heap[gb645]? = some (.cells #[.int .i64 0, (.slice none 0 0), .int .i64 0, .int .i64 0, (.slice none 0 0)] 27 (0, 0))) ∧ Aside0 (w'.heap[gb654]? = some (.cells #[.int .i64 a1, u655001, .int .i64 t649, .int .i64 t650, (.slice Ao11 t651.length co11)] 27 (0, 0))) ∧ Aside0 (Below w.heap.size w w') ∧ Aside0 (Below w10.heap.size w10 w'))
  case atStart => exact ⟨(0), (([] : List (List Int))), (.slice none 0 0), (by first | rfl | (simp; done) | (simp [*]; done)), H', ⟨Nat.le_refl _⟩, ⟨by (with_reducible repeat (first | apply Kd.R_alloc | apply Kd.R_drewN | apply Kd.R_drew)); exact HO657.out⟩, ⟨by first | exact Kd.S_nil _ _ _ _ _ | exact Kd.N_nil _ _ _ _ _ | exact Kd.V_nil _ _ _ _ _ | exact Kd.Q_nil _ _ _ _ _ | exact Kd.R_nil _ _ _ _ _⟩, ⟨by (with_reducible repeat (first | apply Kd.S_alloc | apply Kd.S_drewN | apply Kd.S_drew)); exact Kd.S_mono HO653.out (fun _ hk => ⟨(by simp [Value.ownBlock]), hk.2⟩)⟩, ⟨by (with_reducible repeat (first | refine blk_drewN ?_ _ | refine blk_drew ?_ | refine blk_alloc ?_ _)); exact BK645.out⟩, ⟨by (with_reducible repeat (first | refine blk_drewN ?_ _ | refine blk_drew ?_ | refine blk_alloc ?_ _)); exact BK654.out⟩, ⟨by repeat (first | (with_reducible first | exact HB.out | apply below_alloc | apply pw_below_drewN | apply below_drew1 | refine below_set ?_ GE645.out | refine below_set ?_ GE654.out) | exact HB.out)⟩, ⟨(by repeat (first | (with_reducible first | exact HM.out | apply below_alloc | apply pw_below_drewN | apply below_drew1 | refine below_set ?_ GM654.out) | exact HM.out))⟩⟩
  case round =>
    clear H'
    try clear c1
    try clear c2
    try clear p2
    try clear c3
    try clear c6
    try clear c7
    try clear c13
    try clear hcz14_0
    try clear hcz14_1
    try clear hcz14_2
    try clear hcz14_3
    try clear hcz14_4
    try clear hfz14_0
    try clear hfz14_1
    try clear hfz14_2
    try clear hfz14_3
    try clear hfz14_4
    obtain ⟨x19_1, x655001_1, u655001, rfl, HA, HK1, HO_17, HO_655001, HO_655004, BK645, BK654, HB, HM⟩ := hrel
    cases gk with
    | zero => exact absurd HA.out (by simp [impl_sign.l0])
    | succ k1 =>
      have H := HA.out
      clear HA
      simp only [impl_sign.l0] at H
      by_cases c18 : x19_1 < (t655.length : Int)
      · rw [if_pos c18] at H
        have c18b0 : decide (x19_1 < (t655.length : Int)) = true := decide_eq_true c18
        clear c18
        by_cases c19 : 0 ≤ x19_1
        · rw [if_pos c19] at H
          have c19b0 : decide (0 ≤ x19_1) = true := decide_eq_true c19
          clear c19
          by_cases c20 : x19_1 < (t655.length : Int)
          · rw [if_pos c20] at H
            have c20b0 : decide (x19_1 < (t655.length : Int)) = true := decide_eq_true c20
            clear c20
            replace H := Option.bind_eq_some_iff.mp H
            obtain ⟨t659, A210, H⟩ := H
            replace H : ((impl_climb.f k1 t659 (rd t655 x19_1)).bind fun t662 => (if x655001_1.length < 5864062014805 then (impl_sign.l0 k1 l0 a1 t655 (t655.length : Int) (wrap64 (x19_1 + 1)) a1 (x655001_1 ++ [t662]) t649 t650 t651) else (none))) = some (r1, r2, r3, r4, r5) := H
            have A21 := Aside0.mk A210
            clear A210
            replace H := Option.bind_eq_some_iff.mp H
            obtain ⟨t662, A220, H⟩ := H
            replace H : (if x655001_1.length < 5864062014805 then (impl_sign.l0 k1 l0 a1 t655 (t655.length : Int) (wrap64 (x19_1 + 1)) a1 (x655001_1 ++ [t662]) t649 t650 t651) else (none)) = some (r1, r2, r3, r4, r5) := H
            have A22 := Aside0.mk A220
            clear A220
            by_cases c23 : x655001_1.length < 5864062014805
            · rw [if_pos c23] at H
              have LMc23 := Aside0.mk c23
              clear c23
              obtain ⟨y665, hy665⟩ : ∃ y_ : List (List Int), y_ = (x655001_1 ++ [t662]) := ⟨_, rfl⟩
              replace H : (impl_sign.l0 k1 l0 a1 t655 (t655.length : Int) (wrap64 (x19_1 + 1)) a1 y665 t649 t650 t651) = some (r1, r2, r3, r4, r5) := by first | (rw [hy665]; with_reducible exact H) | (have H2_ := (Option.bind_some _ _).symm.trans H; rw [hy665]; with_reducible exact H2_) | (have H2_ := (Option.bind_some _ _).symm.trans H; with_reducible exact H2_) | with_reducible exact H | (rw [hy665]; exact H) | exact H
              have Ny665 := Aside0.mk hy665
              clear hy665
              have H' := Aside0.mk H
              clear H
              have p658 : 0 ≤ (x19_1 : Int) := of_decide_eq_true (by first | (with_reducible assumption) | assumption)
              have q658 : x19_1 < (t655.length : Int) := of_decide_eq_true (by first | (with_reducible assumption) | assumption)
              obtain ⟨ad658, e658, hx658_0⟩ := Kd.at_int (Kd.R_reads' HO_17.out).2.2 x19_1 p658 q658
              cases e658
              replace p658 := eq_true p658
              replace q658 := eq_true q658
              try go_wp2
              have n0_ := Aside0.mk (Kd.R_drew HO_17.out)
              have n1_ := Aside0.mk (Kd.S_drew HO_655001.out)
              have n2_ := Aside0.mk (Kd.S_drew HO_655004.out)
              have n3_ := Aside0.mk (blk_drew BK645.out)
              have n4_ := Aside0.mk (blk_drew BK654.out)
              have n5_ := Aside0.mk (below_drew1 HB.out)
              replace HM := Aside0.mk (below_drew1 HM.out)
              clear HO_17
              clear HO_655001
              clear HO_655004
              clear BK645
              clear BK654
              clear HB
              have HO_17 := n0_
              have HO_655001 := n1_
              have HO_655004 := n2_
              have BK645 := n3_
              have BK654 := n4_
              have HB := n5_
              clear n0_ n1_ n2_ n3_ n4_ n5_
              refine start_ (n := 12) (S := fun w' => w'.cell? ⟨gb654, 0, none⟩ = some (.int .i64 a1) ∧ w'.cell? ⟨gb654, 1, none⟩ = some (u655001) ∧ w'.cell? ⟨gb654, 2, none⟩ = some (.int .i64 t649) ∧ w'.cell? ⟨gb654, 3, none⟩ = some (.int .i64 t650) ∧ w'.cell? ⟨gb654, 4, none⟩ = some (.slice Ao11 t651.length co11)) (ds := [11]) #[false, false, false, false, false, false, false, false, false, false, false, false] (by kernel_rfl) rfl rfl ⟨(blk_cell BK654.out 0).trans (by first | rfl | (simp only [*] <;> rfl)), (blk_cell BK654.out 1).trans (by first | rfl | (simp only [*] <;> rfl)), (blk_cell BK654.out 2).trans (by first | rfl | (simp only [*] <;> rfl)), (blk_cell BK654.out 3).trans (by first | rfl | (simp only [*] <;> rfl)), (blk_cell BK654.out 4).trans (by first | rfl | (simp only [*] <;> rfl))⟩ (fun hHeld => ?_); refine with_tabW impl_sign.tab5 impl_sign.bits5 (fun HT_ HW_ => ?_)
              generalize wr.drew = w24 at HO_17 HO_655001 HO_655004 BK645 BK654 HB HM hHeld ⊢
              refine pure_ (i := 0) (N := some 24) (v := ?_) (a' := ?_) #[true, false, false, false, false, false, false, false, false, false, false, false] rfl rfl (any_of HT_.out (by kernel_rfl)) (fun _ _ _ h => h) (Or.inl ⟨by rfl, ?_⟩) ?_ ?_
              rotate_left
              · intro w'
                go_simp
                with_reducible rfl
              rotate_left
              · simp only [Act.put, List.setIfInBounds_toArray, List.set_cons_zero, List.set_cons_succ, i64_w, i32_w]
                rfl
              refine pure_ (i := 2) (N := some 26) (v := ?_) (a' := ?_) #[true, false, true, false, false, false, false, false, false, false, false, false] rfl rfl (any_of HT_.out (by kernel_rfl)) (fun _ _ _ h => h) (Or.inl ⟨by rfl, ?_⟩) ?_ ?_
              rotate_left
              · intro w'
                go_simp
                with_reducible rfl
              rotate_left
              · simp only [Act.put, List.setIfInBounds_toArray, List.set_cons_zero, List.set_cons_succ, i64_w, i32_w]
                rfl
              refine pure_ (i := 3) (N := some 27) (v := ?_) (a' := ?_) #[true, false, true, true, false, false, false, false, false, false, false, false] rfl rfl (any_of HT_.out (by kernel_rfl)) (fun _ _ _ h => h) (Or.inl ⟨by rfl, ?_⟩) ?_ ?_
              rotate_left
              · intro w'
                go_simp
                with_reducible rfl
              rotate_left
              · simp only [Act.put, List.setIfInBounds_toArray, List.set_cons_zero, List.set_cons_succ, i64_w, i32_w]
                rfl
              refine pure_ (i := 4) (N := some 28) (v := ?_) (a' := ?_) #[true, false, true, true, true, false, false, false, false, false, false, false] rfl rfl (any_of HT_.out (by kernel_rfl)) (fun _ _ _ h => h) (Or.inl ⟨by rfl, ?_⟩) ?_ ?_
              rotate_left
              · intro w'
                go_simp
                with_reducible rfl
              rotate_left
              · simp only [Act.put, List.setIfInBounds_toArray, List.set_cons_zero, List.set_cons_succ, i64_w, i32_w]
                rfl
              refine pure_ (i := 6) (N := some 30) (v := ?_) (a' := ?_) #[true, false, true, true, true, false, true, false, false, false, false, false] rfl rfl (any_of HT_.out (by kernel_rfl)) (fun _ _ _ h => h) (Or.inl ⟨by rfl, ?_⟩) ?_ ?_
              rotate_left
              · intro w'
                go_simp
                with_reducible rfl
              rotate_left
              · simp only [Act.put, List.setIfInBounds_toArray, List.set_cons_zero, List.set_cons_succ, i64_w, i32_w]
                rfl
              refine take_ (i := 1) (N := some 25) (v := ?_) (a' := ?_) #[true, true, true, true, true, false, true, false, false, false, false, false] rfl rfl (take_ofW HT_.out HW_.out (by kernel_rfl)) (fun _ _ _ h => h) (Or.inl ⟨by rfl, ?_⟩) hHeld ?_ ?_
              rotate_left
              · rintro w' ⟨s0, s1, s2, s3, s4⟩
                go_simp
                with_reducible rfl
              rotate_left
              · simp only [Act.put, List.setIfInBounds_toArray, List.set_cons_zero, List.set_cons_succ, i64_w, i32_w]
                rfl
              refine one_ (i := 5) (N := some 29) #[true, true, true, true, true, true, true, false, false, false, false, false] rfl rfl (one_of HT_.out (by kernel_rfl)) (by decide) (fun K hK => ?_)
              refine goes_ Try.func72 (by kernel_rfl) rfl #[.slice A0 l0.length c0, .int .i64 a1, .int .i64 x19_1] (by rfl) rfl rfl (by (try simp only [List.map_toArray, List.map_cons, List.map_nil]); first | done | rfl | (simp only [List.length_drop, List.length_take]; rfl)) ?_
              with_reducible refine (impl_secret.calls (fun k_ => k_ < w.heap.size) _ _ l0 a1 x19_1 t659 _ ?side1 A21.out).mono ?_
              (case side1 => exact Kd.V_mk HC0.out (Kd.F_below (Kd.C_F (Kd.heap_int .u8) HR0.out) (by repeat (first | (with_reducible first | exact HB.out | apply below_alloc | apply pw_below_drewN | apply below_drew1 | refine below_set ?_ GE645.out | refine below_set ?_ GE654.out) | exact HB.out))))
              rintro e w25 ⟨v660, rfl, ho0, hb⟩
              refine ⟨_, rfl, ?_⟩
              have n0_ := Aside0.mk (Kd.R_below (by (with_reducible repeat (first | apply Kd.R_alloc | apply Kd.R_drewN | apply Kd.R_drew)); exact HO_17.out) hb)
              have n1_ := Aside0.mk (Kd.S_elder' (by (with_reducible repeat (first | apply Kd.S_alloc | apply Kd.S_drewN | apply Kd.S_drew)); exact HO_655001.out) (Kd.R_base ho0) hb)
              have n2_ := Aside0.mk (Kd.S_elder' (by (with_reducible repeat (first | apply Kd.S_alloc | apply Kd.S_drewN | apply Kd.S_drew)); exact HO_655004.out) (Kd.R_base ho0) hb)
              have n3_ := Aside0.mk (Kd.R_lower (Kd.R_mono (ok' := fun k_ => True) ho0 (fun _ hk_ => trivial)) (below_size (by repeat (first | (with_reducible first | exact HB.out | apply below_alloc | apply pw_below_drewN | apply below_drew1 | refine below_set ?_ GE645.out | refine below_set ?_ GE654.out) | exact HB.out))))
              have n4_ := Aside0.mk (blk_below (g := gb645) (o := .cells #[.int .i64 0, .slice none 0 0, .int .i64 0, .int .i64 0, .slice none 0 0] 27 (0, 0)) (by (with_reducible repeat (first | refine blk_drewN ?_ _ | refine blk_drew ?_ | refine blk_alloc ?_ _)); exact BK645.out) hb)
              have n5_ := Aside0.mk (blk_below (g := gb654) (o := .cells #[.int .i64 a1, u655001, .int .i64 t649, .int .i64 t650, .slice Ao11 t651.length co11] 27 (0, 0)) (by (with_reducible repeat (first | refine blk_drewN ?_ _ | refine blk_drew ?_ | refine blk_alloc ?_ _)); exact BK654.out) hb)
              have n6_ := Aside0.mk (below_step (by repeat (first | (with_reducible first | exact HB.out | apply below_alloc | apply pw_below_drewN | apply below_drew1 | refine below_set ?_ GE645.out | refine below_set ?_ GE654.out) | exact HB.out)) hb)
              replace HM := Aside0.mk (below_step (by repeat (first | (with_reducible first | exact HM.out | apply below_alloc | apply pw_below_drewN | apply below_drew1 | refine below_set ?_ GM654.out) | exact HM.out)) hb)
              clear HO_17
              clear HO_655001
              clear HO_655004
              clear BK645
              clear BK654
              clear HB
              have HO_17 := n0_
              have HO_655001 := n1_
              have HO_655004 := n2_
              have HO661 := n3_
              have BK645 := n4_
              have BK654 := n5_
              have HB := n6_
              clear n0_ n1_ n2_ n3_ n4_ n5_ n6_
              (try clear hb)
              (try clear hb2)
              (try clear hk)
              (try clear hi)
              (try clear ho0)
              obtain ⟨Ao26, co26, eo26⟩ := Kd.R_slice HO661.out
              (first | subst eo26 | (injection eo26 with f1_ f2_ f3_; have f4_ := f1_.symm; have f5_ := f3_.symm; clear f1_ f2_ f3_; subst f4_; subst f5_))
              refine hK.out _ _ ⟨(blk_cell BK654.out 0).trans (by first | rfl | (simp only [*] <;> rfl)), (blk_cell BK654.out 1).trans (by first | rfl | (simp only [*] <;> rfl)), (blk_cell BK654.out 2).trans (by first | rfl | (simp only [*] <;> rfl)), (blk_cell BK654.out 3).trans (by first | rfl | (simp only [*] <;> rfl)), (blk_cell BK654.out 4).trans (by first | rfl | (simp only [*] <;> rfl))⟩ (fun hHeld => ?_)
              clear hK K
              refine norm_ (a' := ?_) ?_ ?_
              rotate_left
              · show Act.put _ (some 29) _ = _
                simp only [Act.put, List.setIfInBounds_toArray, List.set_cons_zero, List.set_cons_succ, i64_w, i32_w]
                rfl
              refine one_ (i := 7) (N := some 31) #[true, true, true, true, true, true, true, true, false, false, false, false] rfl rfl (one_of HT_.out (by kernel_rfl)) (by decide) (fun K hK => ?_)
              refine goes_ Try.func71 (by kernel_rfl) rfl #[.slice Ao26 t659.length co26, .int .i64 (rd t655 x19_1)] (by rfl) rfl rfl (by (try simp only [List.map_toArray, List.map_cons, List.map_nil]); first | done | rfl | (simp only [List.length_drop, List.length_take]; rfl)) ?_
              with_reducible refine (impl_climb.calls k1 _ _ t659 (rd t655 x19_1) t662 _ ?side1 ?side2 A22.out).mono ?_
              (case side1 => repeat (first | exact (Kd.R_reads' HO661.out).2.2 | (with_reducible refine Kd.C_alloc ?_ _) | (with_reducible refine Kd.C_drewN ?_ _) | (with_reducible refine Kd.C_drew ?_)))
              (case side2 => exact (Kd.R_reads' HO661.out).2.1)
              rintro e w27 ⟨v663, rfl, ho0, hb⟩
              refine ⟨_, rfl, ?_⟩
              have n0_ := Aside0.mk (Kd.R_below (by (with_reducible repeat (first | apply Kd.R_alloc | apply Kd.R_drewN | apply Kd.R_drew)); exact HO_17.out) hb)
              have n1_ := Aside0.mk (Kd.S_elder' (by (with_reducible repeat (first | apply Kd.S_alloc | apply Kd.S_drewN | apply Kd.S_drew)); exact HO_655001.out) (Kd.R_base ho0) hb)
              have n2_ := Aside0.mk (Kd.S_elder' (by (with_reducible repeat (first | apply Kd.S_alloc | apply Kd.S_drewN | apply Kd.S_drew)); exact HO_655004.out) (Kd.R_base ho0) hb)
              have n3_ := Aside0.mk (Kd.R_elder' (by (with_reducible repeat (first | apply Kd.R_alloc | apply Kd.R_drewN | apply Kd.R_drew)); exact HO661.out) (Kd.R_base ho0) hb)
              have n4_ := Aside0.mk (Kd.R_lower (Kd.R_new' ho0 (Kd.R_lt (by (with_reducible repeat (first | apply Kd.R_alloc | apply Kd.R_drewN | apply Kd.R_drew)); exact HO661.out))) (below_size (by repeat (first | (with_reducible first | exact HM.out | apply below_alloc | apply pw_below_drewN | apply below_drew1 | refine below_set ?_ GM654.out) | exact HM.out))))
              have n5_ := Aside0.mk (blk_below (g := gb645) (o := .cells #[.int .i64 0, .slice none 0 0, .int .i64 0, .int .i64 0, .slice none 0 0] 27 (0, 0)) (by (with_reducible repeat (first | refine blk_drewN ?_ _ | refine blk_drew ?_ | refine blk_alloc ?_ _)); exact BK645.out) hb)
              have n6_ := Aside0.mk (blk_below (g := gb654) (o := .cells #[.int .i64 a1, u655001, .int .i64 t649, .int .i64 t650, .slice Ao11 t651.length co11] 27 (0, 0)) (by (with_reducible repeat (first | refine blk_drewN ?_ _ | refine blk_drew ?_ | refine blk_alloc ?_ _)); exact BK654.out) hb)
              have n7_ := Aside0.mk (below_step (by repeat (first | (with_reducible first | exact HB.out | apply below_alloc | apply pw_below_drewN | apply below_drew1 | refine below_set ?_ GE645.out | refine below_set ?_ GE654.out) | exact HB.out)) hb)
              replace HM := Aside0.mk (below_step (by repeat (first | (with_reducible first | exact HM.out | apply below_alloc | apply pw_below_drewN | apply below_drew1 | refine below_set ?_ GM654.out) | exact HM.out)) hb)
              clear HO_17
              clear HO_655001
              clear HO_655004
              clear HO661
              clear BK645
              clear BK654
              clear HB
              have HO_17 := n0_
              have HO_655001 := n1_
              have HO_655004 := n2_
              have HO661 := n3_
              have HO664 := n4_
              have BK645 := n5_
              have BK654 := n6_
              have HB := n7_
              clear n0_ n1_ n2_ n3_ n4_ n5_ n6_ n7_
              (try clear hb)
              (try clear hb2)
              (try clear hk)
              (try clear hi)
              (try clear ho0)
              obtain ⟨Ao29, co29, eo29⟩ := Kd.R_slice HO664.out
              (first | subst eo29 | (injection eo29 with f1_ f2_ f3_; have f4_ := f1_.symm; have f5_ := f3_.symm; clear f1_ f2_ f3_; subst f4_; subst f5_))
              refine hK.out _ _ ⟨(blk_cell BK654.out 0).trans (by first | rfl | (simp only [*] <;> rfl)), (blk_cell BK654.out 1).trans (by first | rfl | (simp only [*] <;> rfl)), (blk_cell BK654.out 2).trans (by first | rfl | (simp only [*] <;> rfl)), (blk_cell BK654.out 3).trans (by first | rfl | (simp only [*] <;> rfl)), (blk_cell BK654.out 4).trans (by first | rfl | (simp only [*] <;> rfl))⟩ (fun hHeld => ?_)
              clear hK K
              refine norm_ (a' := ?_) ?_ ?_
              rotate_left
              · show Act.put _ (some 31) _ = _
                simp only [Act.put, List.setIfInBounds_toArray, List.set_cons_zero, List.set_cons_succ, i64_w, i32_w]
                rfl
              refine one_ (i := 8) (N := some 32) #[true, true, true, true, true, true, true, true, true, false, false, false] rfl rfl (one_of HT_.out (by kernel_rfl)) (by decide) (fun K hK => ?_)
              refine value_ (w1 := ?_) (v := ?_) (by rfl) rfl ?_ ?_
              rotate_left 2
              · go_simp
                constructor
                · rfl
                · rfl
              refine hK.out _ _ ⟨(blk_cell (blk_alloc BK654.out _) 0).trans rfl, (blk_cell (blk_alloc BK654.out _) 1).trans rfl, (blk_cell (blk_alloc BK654.out _) 2).trans rfl, (blk_cell (blk_alloc BK654.out _) 3).trans rfl, (blk_cell (blk_alloc BK654.out _) 4).trans rfl⟩ (fun hHeld => ?_)
              clear hK K
              refine norm_ (a' := ?_) ?_ ?_
              rotate_left
              · show Act.put _ (some 32) _ = _
                simp only [Act.put, List.setIfInBounds_toArray, List.set_cons_zero, List.set_cons_succ, i64_w, i32_w]
                rfl
              refine one_ (i := 9) (N := some 33) #[true, true, true, true, true, true, true, true, true, true, false, false] rfl rfl (one_of HT_.out (by kernel_rfl)) (by decide) (fun K hK => ?_)
              refine Kd.S_append_step (Kd.slice 5 (Kd.int .u8)) (w0 := w10) w10.heap.size (by rfl) (.tmp 25) (.tmp 32) 23 22 (.slice none 0 0) 24 rfl Try.underlying23 info22 rfl (by decide) (by omega) u655001 x655001_1 t662 [.slice Ao29 t662.length co29] (fun k_ => some k_ ≠ (.slice Ao11 t651.length co11 : Value).ownBlock ∧ some k_ ≠ (.slice Ao26 t659.length co26 : Value).ownBlock) (fun k_ => some k_ = (.slice Ao29 t662.length co29 : Value).ownBlock) rfl rfl ?aP (fun k_ hk_ => ((Kd.R_mono (ok' := fun k_ => ((fun k_ => some k_ ≠ (.slice Ao11 t651.length co11 : Value).ownBlock ∧ some k_ ≠ (.slice Ao26 t659.length co26 : Value).ownBlock)) k_ ∧ some k_ ≠ (u655001 : Value).ownBlock) (Kd.R_apart' (Kd.R_apart' (HO664.out) (Kd.S_typed HO_655004.out) (by decide)) (Kd.S_typed HO_655001.out) (by decide)) (fun k_ hk => ⟨⟨hk.1.2, hk.1.1.2⟩, hk.2⟩))).1 k_ hk_.symm) ?aF ?aO ?aB ?aS ?aL ?_
              (case aP => exact Kd.M_row (Kd.R_mono (Kd.R_tight rfl (Kd.R_mono (ok' := fun k_ => ((fun k_ => some k_ ≠ (.slice Ao11 t651.length co11 : Value).ownBlock ∧ some k_ ≠ (.slice Ao26 t659.length co26 : Value).ownBlock)) k_ ∧ some k_ ≠ (u655001 : Value).ownBlock) (Kd.R_apart' (Kd.R_apart' (HO664.out) (Kd.S_typed HO_655004.out) (by decide)) (Kd.S_typed HO_655001.out) (by decide)) (fun k_ hk => ⟨⟨hk.1.2, hk.1.1.2⟩, hk.2⟩))) (fun _ h_ => h_)))
              (case aB => exact (by repeat (first | (with_reducible first | exact HM.out | apply below_alloc | apply pw_below_drewN | apply below_drew1 | refine below_set ?_ GM654.out) | exact HM.out)))
              (case aF => exact (fun k_ hk => ⟨Kd.fresh' (Kd.S_lt (by (with_reducible repeat (first | apply Kd.S_alloc | apply Kd.S_drewN | apply Kd.S_drew)); exact HO_655004.out)) k_ hk, Kd.fresh' (Kd.R_lt (by (with_reducible repeat (first | apply Kd.R_alloc | apply Kd.R_drewN | apply Kd.R_drew)); exact HO661.out)) k_ hk⟩))
              (case aO => exact (by (with_reducible repeat (first | apply Kd.S_alloc | apply Kd.S_drewN | apply Kd.S_drew)); exact Kd.S_mono HO_655001.out (fun k_ hk => ⟨⟨hk.1.1, hk.1.2⟩, fun e_ => hk.2 e_⟩)))
              (case aS => exact (below_size (by repeat (first | (with_reducible first | exact HM.out | apply below_alloc | apply pw_below_drewN | apply below_drew1 | refine below_set ?_ GM654.out) | exact HM.out))))
              (case aL => have := LMc23.out; omega)
              intro v666 w28 ho hb hg hat
              rw [← Ny665.out] at ho
              have n0_ := Aside0.mk (Kd.R_over' (by (with_reducible repeat (first | apply Kd.R_alloc | apply Kd.R_drewN | apply Kd.R_drew)); exact HO_17.out) (Kd.S_typed (by (with_reducible repeat (first | apply Kd.S_alloc | apply Kd.S_drewN | apply Kd.S_drew)); exact HO_655001.out)) (by decide) hg)
              have n1_ := Aside0.mk (Kd.S_after (ok := (fun k_ => some k_ ≠ (.slice Ao26 t659.length co26 : Value).ownBlock ∧ some k_ ≠ (.slice Ao29 t662.length co29 : Value).ownBlock ∧ k_ < w10.heap.size)) (by (with_reducible repeat (first | apply Kd.S_alloc | apply Kd.S_drewN | apply Kd.S_drew)); exact Kd.S_mono HO_655004.out (fun _ hk => ⟨⟨hk.1.2, hk.2, hk.1.1.2⟩, hk.1.1.1⟩)) hg hat)
              have n2_ := Aside0.mk (blk_grown (g := gb645) (o := .cells #[.int .i64 0, .slice none 0 0, .int .i64 0, .int .i64 0, .slice none 0 0] 27 (0, 0)) (by (with_reducible repeat (first | refine blk_drewN ?_ _ | refine blk_drew ?_ | refine blk_alloc ?_ _)); exact BK645.out) hg (Kd.S_ne HO_655001.out BK645.out (by decide)))
              have n3_ := Aside0.mk (blk_grown (g := gb654) (o := .cells #[.int .i64 a1, u655001, .int .i64 t649, .int .i64 t650, .slice Ao11 t651.length co11] 27 (0, 0)) (by (with_reducible repeat (first | refine blk_drewN ?_ _ | refine blk_drew ?_ | refine blk_alloc ?_ _)); exact BK654.out) hg (Kd.S_ne HO_655001.out BK654.out (by decide)))
              have n4_ := Aside0.mk (Kd.R_over' (by (with_reducible repeat (first | apply Kd.R_alloc | apply Kd.R_drewN | apply Kd.R_drew)); exact HO661.out) (Kd.S_typed (by (with_reducible repeat (first | apply Kd.S_alloc | apply Kd.S_drewN | apply Kd.S_drew)); exact HO_655001.out)) (by decide) hg)
              have n5_ := Aside0.mk (below_step HB10.out hb)
              replace HM := Aside0.mk hb
              have n6_ := Aside0.mk (ho)
              clear HO_17
              clear HO_655004
              clear BK645
              clear BK654
              clear HO661
              clear HB
              clear HO_655001
              clear HO664
              have HO_17 := n0_
              have HO_655004 := n1_
              have BK645 := n2_
              have BK654 := n3_
              have HO661 := n4_
              have HB := n5_
              have HO667 := n6_
              clear n0_ n1_ n2_ n3_ n4_ n5_ n6_
              clear ho hb hg hat
              obtain ⟨Ao30, co30, eo30⟩ := Kd.S_slice HO667.out
              (first | subst eo30 | (injection eo30 with f1_ f2_ f3_; have f4_ := f1_.symm; have f5_ := f3_.symm; clear f1_ f2_ f3_; subst f4_; subst f5_))
              refine hK.out _ _ ⟨(blk_cell BK654.out 0).trans (by first | rfl | (simp only [*] <;> rfl)), (blk_cell BK654.out 1).trans (by first | rfl | (simp only [*] <;> rfl)), (blk_cell BK654.out 2).trans (by first | rfl | (simp only [*] <;> rfl)), (blk_cell BK654.out 3).trans (by first | rfl | (simp only [*] <;> rfl)), (blk_cell BK654.out 4).trans (by first | rfl | (simp only [*] <;> rfl))⟩ (fun hHeld => ?_)
              clear hK K
              refine norm_ (a' := ?_) ?_ ?_
              rotate_left
              · show Act.put _ (some 33) _ = _
                simp only [Act.put, List.setIfInBounds_toArray, List.set_cons_zero, List.set_cons_succ, i64_w, i32_w]
                rfl
              refine pure_ (i := 10) (N := some 34) (v := ?_) (a' := ?_) #[true, true, true, true, true, true, true, true, true, true, true, false] rfl rfl (any_of HT_.out (by kernel_rfl)) (fun _ _ _ h => h) (Or.inl ⟨by rfl, ?_⟩) ?_ ?_
              rotate_left
              · intro w'
                go_simp
                with_reducible rfl
              rotate_left
              · simp only [Act.put, List.setIfInBounds_toArray, List.set_cons_zero, List.set_cons_succ, i64_w, i32_w]
                rfl
              refine last_ (i := 11) (N := none) #[true, true, true, true, true, true, true, true, true, true, true, true] rfl rfl (one_of HT_.out (by kernel_rfl)) (by decide) (fun K hK => ?_)
              have hs31 : w28.cell? ⟨gb654, 1, none⟩ = some (u655001) := (blk_cell BK654.out 1).trans (by first | rfl | (simp only [*] <;> rfl))
              have hfs31 := blk_frozen BK654.out 1
              have hns31_0 := NB645_654.out
              have hms31_0 := NB654_645.out
              refine skip_ (w1 := ?_) (by rfl) rfl ?_ ?_
              rotate_left
              · go_simp
                rfl
              refine hK.out _ _ ?_
              clear hK K
              refine done_ (done_of HT_.out (by kernel_rfl)) ?_
              try go_wp2
              go_roundg k1
              case measure => have := HK1.out; omega
              case rel => exact ⟨(wrap64 (x19_1 + 1)), (y665), (.slice Ao30 y665.length co30), (by first | rfl | (simp; done) | (simp [*]; done)), H', ⟨by have := HK1.out; omega⟩, ⟨by (with_reducible repeat (first | apply Kd.R_alloc | apply Kd.R_drewN | apply Kd.R_drew)); exact Kd.R_mono (Kd.R_far (p := ⟨gb654, 1, none⟩) (Kd.R_types HO_17.out BK654.out (by decide)) (fun _ hk => hk.2) (.slice Ao30 y665.length co30)) (fun _ hk => trivial)⟩, ⟨by (with_reducible repeat (first | apply Kd.S_alloc | apply Kd.S_drewN | apply Kd.S_drew)); exact Kd.S_mono (Kd.S_far (p := ⟨gb654, 1, none⟩) (Kd.S_types HO667.out BK654.out (by decide)) (fun _ hk => hk.2) (.slice Ao30 y665.length co30)) (fun _ hk => hk.1.1)⟩, ⟨by (with_reducible repeat (first | apply Kd.S_alloc | apply Kd.S_drewN | apply Kd.S_drew)); exact Kd.S_mono (Kd.S_far (p := ⟨gb654, 1, none⟩) (Kd.S_types HO_655004.out BK654.out (by decide)) (fun _ hk => hk.2) (.slice Ao30 y665.length co30)) (fun _ hk => ⟨hk.1.2, hk.1.1.2.2⟩)⟩, ⟨by (with_reducible repeat (first | refine blk_drewN ?_ _ | refine blk_drew ?_ | refine blk_alloc ?_ _)); refine blk_far ?_ NB645_654.out _; (with_reducible repeat (first | refine blk_drewN ?_ _ | refine blk_drew ?_ | refine blk_alloc ?_ _)); exact BK645.out⟩, ⟨by (with_reducible repeat (first | refine blk_drewN ?_ _ | refine blk_drew ?_ | refine blk_alloc ?_ _)); refine blk_put (cs := #[.int .i64 a1, u655001, .int .i64 t649, .int .i64 t650, .slice Ao11 t651.length co11]) ?_ 1 _ rfl; (with_reducible repeat (first | refine blk_drewN ?_ _ | refine blk_drew ?_ | refine blk_alloc ?_ _)); exact BK654.out⟩, ⟨by repeat (first | (with_reducible first | exact HB.out | apply below_alloc | apply pw_below_drewN | apply below_drew1 | refine below_set ?_ GE645.out | refine below_set ?_ GE654.out) | exact HB.out)⟩, ⟨(by repeat (first | (with_reducible first | exact HM.out | apply below_alloc | apply pw_below_drewN | apply below_drew1 | refine below_set ?_ GM654.out) | exact HM.out))⟩⟩
            · rw [if_neg c23] at H
              exact absurd H (by simp)
          · rw [if_neg c20] at H
            exact absurd H (by simp)
        · rw [if_neg c19] at H
          exact absurd H (by simp)
      · rw [if_neg c18] at H
        have c18b0 : decide (x19_1 < (t655.length : Int)) = false := decide_eq_false c18
        clear c18
        simp only [Option.some.injEq, Prod.mk.injEq] at H
        obtain ⟨rfl, rfl, rfl, rfl, rfl⟩ := H
        have hnb32 := NB654_645.out
        have hnc32 := NB645_654.out
        have hcz33_0 : wr.cell? ⟨gb654, 0, none⟩ = some (.int .i64 a1) := (blk_cell BK654.out 0).trans (by first | rfl | (simp only [*] <;> rfl))
        have hcz33_1 : wr.cell? ⟨gb654, 1, none⟩ = some (u655001) := (blk_cell BK654.out 1).trans (by first | rfl | (simp only [*] <;> rfl))
        have hcz33_2 : wr.cell? ⟨gb654, 2, none⟩ = some (.int .i64 t649) := (blk_cell BK654.out 2).trans (by first | rfl | (simp only [*] <;> rfl))
        have hcz33_3 : wr.cell? ⟨gb654, 3, none⟩ = some (.int .i64 t650) := (blk_cell BK654.out 3).trans (by first | rfl | (simp only [*] <;> rfl))
        have hcz33_4 : wr.cell? ⟨gb654, 4, none⟩ = some (.slice Ao11 t651.length co11) := (blk_cell BK654.out 4).trans (by first | rfl | (simp only [*] <;> rfl))
        have hfz33_0 := blk_frozen BK654.out 0
        have hfz33_1 := blk_frozen BK654.out 1
        have hfz33_2 := blk_frozen BK654.out 2
        have hfz33_3 := blk_frozen BK654.out 3
        have hfz33_4 := blk_frozen BK654.out 4
        have hcz34_0 : wr.cell? ⟨gb645, 0, none⟩ = some (.int .i64 0) := (blk_cell BK645.out 0).trans (by first | rfl | (simp only [*] <;> rfl))
        have hcz34_1 : wr.cell? ⟨gb645, 1, none⟩ = some (.slice none 0 0) := (blk_cell BK645.out 1).trans (by first | rfl | (simp only [*] <;> rfl))
        have hcz34_2 : wr.cell? ⟨gb645, 2, none⟩ = some (.int .i64 0) := (blk_cell BK645.out 2).trans (by first | rfl | (simp only [*] <;> rfl))
        have hcz34_3 : wr.cell? ⟨gb645, 3, none⟩ = some (.int .i64 0) := (blk_cell BK645.out 3).trans (by first | rfl | (simp only [*] <;> rfl))
        have hcz34_4 : wr.cell? ⟨gb645, 4, none⟩ = some (.slice none 0 0) := (blk_cell BK645.out 4).trans (by first | rfl | (simp only [*] <;> rfl))
        have hfz34_0 := blk_frozen BK645.out 0
        have hfz34_1 := blk_frozen BK645.out 1
        have hfz34_2 := blk_frozen BK645.out 2
        have hfz34_3 := blk_frozen BK645.out 3
        have hfz34_4 := blk_frozen BK645.out 4
        obtain ⟨Ao35, co35, eo35⟩ := Kd.S_slice HO_655001.out
        subst eo35
        go_wp2
        refine bodyPost_ret (results_cell_row rfl _ _ gb645 27 #[.int .i64 a1, .slice Ao35 x655001_1.length co35, .int .i64 t649, .int .i64 t650, .slice Ao11 t651.length co11] (0, 0) _ rfl (by (with_reducible repeat (first | refine blk_drewN ?_ _ | refine blk_drew ?_ | refine blk_alloc ?_ _)); refine blk_put (cs := #[.int .i64 a1, .slice Ao35 x655001_1.length co35, .int .i64 t649, .int .i64 t650, .slice none 0 0]) ?_ 4 _ rfl; (with_reducible repeat (first | refine blk_drewN ?_ _ | refine blk_drew ?_ | refine blk_alloc ?_ _)); refine blk_put (cs := #[.int .i64 a1, .slice Ao35 x655001_1.length co35, .int .i64 t649, .int .i64 0, .slice none 0 0]) ?_ 3 _ rfl; (with_reducible repeat (first | refine blk_drewN ?_ _ | refine blk_drew ?_ | refine blk_alloc ?_ _)); refine blk_put (cs := #[.int .i64 a1, .slice Ao35 x655001_1.length co35, .int .i64 0, .int .i64 0, .slice none 0 0]) ?_ 2 _ rfl; (with_reducible repeat (first | refine blk_drewN ?_ _ | refine blk_drew ?_ | refine blk_alloc ?_ _)); refine blk_put (cs := #[.int .i64 a1, .slice none 0 0, .int .i64 0, .int .i64 0, .slice none 0 0]) ?_ 1 _ rfl; (with_reducible repeat (first | refine blk_drewN ?_ _ | refine blk_drew ?_ | refine blk_alloc ?_ _)); refine blk_put (cs := #[.int .i64 0, .slice none 0 0, .int .i64 0, .int .i64 0, .slice none 0 0]) ?_ 0 _ rfl; (with_reducible repeat (first | refine blk_drewN ?_ _ | refine blk_drew ?_ | refine blk_alloc ?_ _)); exact BK645.out) Try.underlying27 rfl (by kernel_rfl)) rfl ?_
        exact ⟨w10.heap.size, _, _, by first | rfl | (simp [errW_none, errW_some] <;> rfl) | (simp [*, errW_none, errW_some] <;> rfl), below_size HB10.out, by (with_reducible repeat (first | apply Kd.S_alloc | apply Kd.S_drewN | apply Kd.S_drew)); exact Kd.S_mono (Kd.S_far (p := ⟨gb645, 4, none⟩) (Kd.S_far (p := ⟨gb645, 3, none⟩) (Kd.S_far (p := ⟨gb645, 2, none⟩) (Kd.S_far (p := ⟨gb645, 1, none⟩) (Kd.S_far (p := ⟨gb645, 0, none⟩) (Kd.S_types HO_655001.out BK645.out (by decide)) (fun _ hk => hk.2) (.int .i64 a1)) (fun _ hk => hk.2) (.slice Ao35 x655001_1.length co35)) (fun _ hk => hk.2) (.int .i64 t649)) (fun _ hk => hk.2) (.int .i64 t650)) (fun _ hk => hk.2) (.slice Ao11 t651.length co11)) (fun _ hk => hk.1), by (with_reducible repeat (first | apply Kd.S_alloc | apply Kd.S_drewN | apply Kd.S_drew)); exact Kd.S_mono (Kd.S_far (p := ⟨gb645, 4, none⟩) (Kd.S_far (p := ⟨gb645, 3, none⟩) (Kd.S_far (p := ⟨gb645, 2, none⟩) (Kd.S_far (p := ⟨gb645, 1, none⟩) (Kd.S_far (p := ⟨gb645, 0, none⟩) (Kd.S_types HO_655004.out BK645.out (by decide)) (fun _ hk => hk.2) (.int .i64 a1)) (fun _ hk => hk.2) (.slice Ao35 x655001_1.length co35)) (fun _ hk => hk.2) (.int .i64 t649)) (fun _ hk => hk.2) (.int .i64 t650)) (fun _ hk => hk.2) (.slice Ao11 t651.length co11)) (fun _ hk => hk.1), by repeat (first | (with_reducible first | exact HB.out | apply below_alloc | apply pw_below_drewN | apply below_drew1 | refine below_set ?_ GE645.out | refine below_set ?_ GE654.out) | exact HB.out)⟩

set_option maxHeartbeats 8000000 in
set_option maxRecDepth 100000 in
theorem impl_SignMessage.callsG (k : Nat) (A0 : Option Addr) (c0 : Nat) (l0 : List Int) (a1 : Int) (A2 : Option Addr) (c2 : Nat) (l2 : List Int) (r1 : Int) (r2 : Int) (r3 : List (List Int)) (r4 : Int) (r5 : Int) (r6 : List (List Int)) (w : World) (hr0 : Kd.C (Kd.int .u8) w A0 l0.length l0) (hc0 : l0.length ≤ c0) (hr2 : Kd.C (Kd.int .u8) w A2 l2.length l2) (hc2 : l2.length ≤ c2) (h : impl_SignMessage.f k l0 a1 l2 = some (r1, r2, r3, r4, r5, r6)) :
    Calls Try.prog 9 #[.slice A0 l0.length c0, .int .i64 a1, .slice A2 l2.length c2] w fun e w' => ∃ (m_ : Nat) (v2_ v5_ : Value), e = .returned (.agg #[.int .i64 r1, .int .i64 r2, v2_, .int .i64 r4, .int .i64 r5, v5_]) ∧ w.heap.size ≤ m_ ∧ Kd.S (Kd.slice 5 (Kd.int .u8)) 22 w' m_ (fun k_ => some k_ ≠ (v5_ : Value).ownBlock) v2_ r3 ∧ Kd.S (Kd.slice 5 (Kd.int .u8)) 22 w' w.heap.size (fun k_ => some k_ ≠ (v2_ : Value).ownBlock ∧ k_ < m_) v5_ r6 ∧ Below w.heap.size w w' := by
  have hu29 := Try.underlying29
  have HR0 := Aside0.mk hr0
  have HC0 := Aside0.mk hc0
  clear hr0 hc0
  have HR2 := Aside0.mk hr2
  have HC2 := Aside0.mk hc2
  clear hr2 hc2
  have HB := Aside0.mk (Below.refl w.heap.size w)
  have H : (if (l0.length : Int) > 200 then (impl_SignMessage.j0 k l0 a1 l2 true) else (impl_SignMessage.j0 k l0 a1 l2 (decide ((l2.length : Int) > 4000)))) = some (r1, r2, r3, r4, r5, r6) := h
  clear h
  have HC4 := Aside0.mk H
  clear H
  go_enter Try.func9, Try.ntmps9
  go_upto_region 1 with (first | ((with_reducible refine gate_dst (N := 6) rfl ?_); (try (refine gate_guard (by rfl) ?_; dsimp only)); refine box_event ?hg (N := 6) ?hd (cs := #[.int .i64 0, .int .i64 0, .slice none 0 0, .int .i64 0, .int .i64 0, .slice none 0 0]) (t := 29) ?hr ?_; (case hd => rfl); (case hg => rfl); (case hr => first | (go_simp; done) | (go_simp; rfl)); intro gb668 hg w5 hbox hb; have n0_ := Aside0.mk (below_step (by repeat (first | (with_reducible first | exact HB.out | apply below_alloc | apply pw_below_drewN | apply below_drew1) | exact HB.out)) hb); have n1_ := Aside0.mk (hbox); have n2_ := Aside0.mk ((by rw [hg]; exact (below_size (by repeat (first | (with_reducible first | exact HB.out | apply below_alloc | apply pw_below_drewN | apply below_drew1) | exact HB.out))) : w.heap.size ≤ gb668)); have n3_ := Aside0.mk ((by rw [hg]; exact (below_size (by repeat (first | (with_reducible first | exact HB.out | apply below_alloc | apply pw_below_drewN | apply below_drew1) | exact HB.out))) : w.heap.size ≤ gb668)); clear HB; have HB := n0_; have BK668 := n1_; have GW668 := n2_; have GE668 := n3_; clear n0_ n1_ n2_ n3_; clear hb hbox hg))
  (try simp only [Act.put, List.setIfInBounds_toArray, List.set_cons_zero, List.set_cons_succ])
  go_cut [14] (fun v14 wc => ∃ (kq : Nat) (x14_3 : Bool), v14 = .bool x14_3 ∧ Aside0 (impl_SignMessage.j0 kq l0 a1 l2 x14_3 = some (r1, r2, r3, r4, r5, r6)) ∧ Aside0 (kq ≤ k) ∧ Aside0 (wc.heap[gb668]? = some (.cells #[.int .i64 0, .int .i64 0, (.slice none 0 0), .int .i64 0, .int .i64 0, (.slice none 0 0)] 29 (0, 0))) ∧ Aside0 (Below w.heap.size w wc))
  case first =>
    have H := HC4.out
    clear HC4
    by_cases c6 : (l0.length : Int) > 200
    · rw [if_pos c6] at H
      have c6b0 : decide (200 < (l0.length : Int)) = true := decide_eq_true c6
      have c6b1 : decide (200 < l0.length) = true := decide_eq_true (by omega)
      clear c6
      (first | rw [c6b0] | (simp only [i64_w, i32_w]; rw [c6b0]) | skip)
      have H' := Aside0.mk H
      clear H
      go_wp2
      go_meet
      case rel => exact ⟨_, (true), (by first | rfl | (simp; done) | (simp [*]; done)), H', ⟨by first | omega | exact Nat.le_refl _⟩, ⟨by (with_reducible repeat (first | refine blk_drewN ?_ _ | refine blk_drew ?_ | refine blk_alloc ?_ _)); exact BK668.out⟩, ⟨by repeat (first | (with_reducible first | exact HB.out | apply below_alloc | apply pw_below_drewN | apply below_drew1 | refine below_set ?_ GE668.out) | exact HB.out)⟩⟩
    · rw [if_neg c6] at H
      have c6b0 : decide (200 < (l0.length : Int)) = false := decide_eq_false c6
      have c6b1 : decide (200 < l0.length) = false := decide_eq_false (by omega)
      clear c6
      (first | rw [c6b0] | (simp only [i64_w, i32_w]; rw [c6b0]) | skip)
      have H' := Aside0.mk H
      clear H
      go_wp2
      go_meet
      case rel => exact ⟨_, (decide ((l2.length : Int) > 4000)), (by first | rfl | (simp; done) | (simp [*]; done)), H', ⟨by first | omega | exact Nat.le_refl _⟩, ⟨by (with_reducible repeat (first | refine blk_drewN ?_ _ | refine blk_drew ?_ | refine blk_alloc ?_ _)); exact BK668.out⟩, ⟨by repeat (first | (with_reducible first | exact HB.out | apply below_alloc | apply pw_below_drewN | apply below_drew1 | refine below_set ?_ GE668.out) | exact HB.out)⟩⟩
  case rest =>
    clear HC4
    try clear c2
    try clear p2
    try clear c6
    try clear c6b0
    try clear c6b1
    obtain ⟨kq, x14_3, rfl, HA, HJ3, BK668, HB⟩ := hcut
    cases kq with
    | zero => exact absurd HA.out (by simp [impl_SignMessage.j0])
    | succ kj3 =>
      have H := HA.out
      clear HA
      simp only [impl_SignMessage.j0] at H
      by_cases c7 : x14_3 = true
      · subst c7
        have H1 : (some (2, 0, ([] : List (List Int)), 0, 0, ([] : List (List Int)))) = some (r1, r2, r3, r4, r5, r6) := by rw [if_pos rfl] at H; exact H
        clear H
        have H := H1
        clear H1
        simp only [Option.some.injEq, Prod.mk.injEq] at H
        obtain ⟨rfl, rfl, rfl, rfl, rfl, rfl⟩ := H
        have hcz8_0 : wc.cell? ⟨gb668, 0, none⟩ = some (.int .i64 0) := (blk_cell BK668.out 0).trans (by first | rfl | (simp only [*] <;> rfl))
        have hcz8_1 : wc.cell? ⟨gb668, 1, none⟩ = some (.int .i64 0) := (blk_cell BK668.out 1).trans (by first | rfl | (simp only [*] <;> rfl))
        have hcz8_2 : wc.cell? ⟨gb668, 2, none⟩ = some (.slice none 0 0) := (blk_cell BK668.out 2).trans (by first | rfl | (simp only [*] <;> rfl))
        have hcz8_3 : wc.cell? ⟨gb668, 3, none⟩ = some (.int .i64 0) := (blk_cell BK668.out 3).trans (by first | rfl | (simp only [*] <;> rfl))
        have hcz8_4 : wc.cell? ⟨gb668, 4, none⟩ = some (.int .i64 0) := (blk_cell BK668.out 4).trans (by first | rfl | (simp only [*] <;> rfl))
        have hcz8_5 : wc.cell? ⟨gb668, 5, none⟩ = some (.slice none 0 0) := (blk_cell BK668.out 5).trans (by first | rfl | (simp only [*] <;> rfl))
        have hfz8_0 := blk_frozen BK668.out 0
        have hfz8_1 := blk_frozen BK668.out 1
        have hfz8_2 := blk_frozen BK668.out 2
        have hfz8_3 := blk_frozen BK668.out 3
        have hfz8_4 := blk_frozen BK668.out 4
        have hfz8_5 := blk_frozen BK668.out 5
        go_wp2
        refine bodyPost_ret (results_cell_row rfl _ _ gb668 29 #[.int .i64 2, .int .i64 0, .slice none 0 0, .int .i64 0, .int .i64 0, .slice none 0 0] (0, 0) _ rfl (by (with_reducible repeat (first | refine blk_drewN ?_ _ | refine blk_drew ?_ | refine blk_alloc ?_ _)); refine blk_put (cs := #[.int .i64 2, .int .i64 0, .slice none 0 0, .int .i64 0, .int .i64 0, .slice none 0 0]) ?_ 5 _ rfl; (with_reducible repeat (first | refine blk_drewN ?_ _ | refine blk_drew ?_ | refine blk_alloc ?_ _)); refine blk_put (cs := #[.int .i64 2, .int .i64 0, .slice none 0 0, .int .i64 0, .int .i64 0, .slice none 0 0]) ?_ 4 _ rfl; (with_reducible repeat (first | refine blk_drewN ?_ _ | refine blk_drew ?_ | refine blk_alloc ?_ _)); refine blk_put (cs := #[.int .i64 2, .int .i64 0, .slice none 0 0, .int .i64 0, .int .i64 0, .slice none 0 0]) ?_ 3 _ rfl; (with_reducible repeat (first | refine blk_drewN ?_ _ | refine blk_drew ?_ | refine blk_alloc ?_ _)); refine blk_put (cs := #[.int .i64 2, .int .i64 0, .slice none 0 0, .int .i64 0, .int .i64 0, .slice none 0 0]) ?_ 2 _ rfl; (with_reducible repeat (first | refine blk_drewN ?_ _ | refine blk_drew ?_ | refine blk_alloc ?_ _)); refine blk_put (cs := #[.int .i64 2, .int .i64 0, .slice none 0 0, .int .i64 0, .int .i64 0, .slice none 0 0]) ?_ 1 _ rfl; (with_reducible repeat (first | refine blk_drewN ?_ _ | refine blk_drew ?_ | refine blk_alloc ?_ _)); refine blk_put (cs := #[.int .i64 0, .int .i64 0, .slice none 0 0, .int .i64 0, .int .i64 0, .slice none 0 0]) ?_ 0 _ rfl; (with_reducible repeat (first | refine blk_drewN ?_ _ | refine blk_drew ?_ | refine blk_alloc ?_ _)); exact BK668.out) Try.underlying29 rfl (by kernel_rfl)) rfl ?_
        exact ⟨w.heap.size, _, _, by first | rfl | (simp [errW_none, errW_some] <;> rfl) | (simp [*, errW_none, errW_some] <;> rfl), Nat.le_refl _, by first | exact Kd.S_nil _ _ _ _ _ | exact Kd.N_nil _ _ _ _ _ | exact Kd.V_nil _ _ _ _ _ | exact Kd.Q_nil _ _ _ _ _ | exact Kd.R_nil _ _ _ _ _, by first | exact Kd.S_nil _ _ _ _ _ | exact Kd.N_nil _ _ _ _ _ | exact Kd.V_nil _ _ _ _ _ | exact Kd.Q_nil _ _ _ _ _ | exact Kd.R_nil _ _ _ _ _, by repeat (first | (with_reducible first | exact HB.out | apply below_alloc | apply pw_below_drewN | apply below_drew1 | refine below_set ?_ GE668.out) | exact HB.out)⟩
      · replace c7 := Bool.eq_false_iff.mpr c7
        subst c7
        have H1 : ((impl_isLeaf.f a1).bind fun t669 => (if t669 = true then ((impl_sign.f kj3 l0 a1 l2).bind fun bt670 => (some (0, bt670.1, bt670.2.1, bt670.2.2.1, bt670.2.2.2.1, bt670.2.2.2.2))) else (some (3, 0, ([] : List (List Int)), 0, 0, ([] : List (List Int)))))) = some (r1, r2, r3, r4, r5, r6) := by rw [if_neg (show ¬ (false = true) by decide)] at H; exact H
        clear H
        have H := H1
        clear H1
        replace H := Option.bind_eq_some_iff.mp H
        obtain ⟨t669, A90, H⟩ := H
        replace H : (if t669 = true then ((impl_sign.f kj3 l0 a1 l2).bind fun bt670 => (some (0, bt670.1, bt670.2.1, bt670.2.2.1, bt670.2.2.2.1, bt670.2.2.2.2))) else (some (3, 0, ([] : List (List Int)), 0, 0, ([] : List (List Int))))) = some (r1, r2, r3, r4, r5, r6) := H
        have A9 := Aside0.mk A90
        clear A90
        by_cases c10 : t669 = true
        · subst c10
          have H1 : ((impl_sign.f kj3 l0 a1 l2).bind fun bt670 => (some (0, bt670.1, bt670.2.1, bt670.2.2.1, bt670.2.2.2.1, bt670.2.2.2.2))) = some (r1, r2, r3, r4, r5, r6) := by rw [if_pos rfl] at H; exact H
          clear H
          have H := H1
          clear H1
          replace H := Option.bind_eq_some_iff.mp H
          obtain ⟨⟨t670, t671, t674, t675, t676⟩, A110, H⟩ := H
          replace H : (some (0, t670, t671, t674, t675, t676)) = some (r1, r2, r3, r4, r5, r6) := H
          have A11 := Aside0.mk A110
          clear A110
          simp only [Option.some.injEq, Prod.mk.injEq] at H
          obtain ⟨rfl, rfl, rfl, rfl, rfl, rfl⟩ := H
          go_wp2_with (first | ((with_reducible refine gate_callee (f := 34) rfl ?_); refine goesL_ (some 17) rfl rfl Try.func34 (by kernel_rfl) rfl #[.int .i64 a1] rfl (by (try simp only [List.map_toArray, List.map_cons, List.map_nil]); first | done | rfl | (simp only [List.length_drop, List.length_take]; rfl)) ?_; (with_reducible refine (impl_isLeaf.calls a1 true _ A9.out).mono ?_); rintro e w' ⟨rfl, ⟨nd, rfl⟩⟩; refine ⟨_, rfl, ?_⟩; (try (rw [drewN_self wc]; generalize hq_ : World.drewN wc _ = wc; have n0_ : Aside0 (wc.heap[gb668]? = some (.cells #[.int .i64 0, .int .i64 0, .slice none 0 0, .int .i64 0, .int .i64 0, .slice none 0 0] 29 (0, 0))) := ⟨by rw [← hq_]; exact (by (with_reducible repeat (first | refine blk_drewN ?_ _ | refine blk_drew ?_ | refine blk_alloc ?_ _)); exact BK668.out)⟩; have n1_ : Aside0 (Below w.heap.size w wc) := ⟨by rw [← hq_]; exact (by repeat (first | (with_reducible first | exact HB.out | apply below_alloc | apply pw_below_drewN | apply below_drew1 | refine below_set ?_ GE668.out) | exact HB.out))⟩; clear BK668 HB hq_; have BK668 := n0_; have HB := n1_; clear n0_ n1_))) | ((with_reducible refine gate_callee (f := 35) rfl ?_); refine goesL_ (some 23) rfl rfl Try.func35 (by kernel_rfl) rfl #[.slice A0 l0.length c0, .int .i64 a1, .slice A2 l2.length c2] rfl (by (try simp only [List.map_toArray, List.map_cons, List.map_nil]); first | done | rfl | (simp only [List.length_drop, List.length_take]; rfl)) ?_; (with_reducible refine (impl_sign.callsG kj3 _ _ l0 a1 _ _ l2 t670 t671 t674 t675 t676 _ ?side1 ?side2 ?side3 ?side4 A11.out).mono ?_); (case side1 => repeat (first | exact (Kd.C_below HR0.out HB.out) | (with_reducible refine Kd.C_alloc ?_ _) | (with_reducible refine Kd.C_drewN ?_ _) | (with_reducible refine Kd.C_drew ?_))); (case side2 => exact HC0.out); (case side3 => repeat (first | exact (Kd.C_below HR2.out HB.out) | (with_reducible refine Kd.C_alloc ?_ _) | (with_reducible refine Kd.C_drewN ?_ _) | (with_reducible refine Kd.C_drew ?_))); (case side4 => exact HC2.out); rintro e w12 ⟨m12, v672, v677, rfl, hm12, ho0, ho1, hb⟩; refine ⟨_, rfl, ?_⟩; have MM := Aside0.mk (Nat.le_trans (below_size (by repeat (first | (with_reducible first | exact HB.out | apply below_alloc | apply pw_below_drewN | apply below_drew1 | refine below_set ?_ GE668.out) | exact HB.out))) hm12); clear hm12; have n0_ := Aside0.mk (ho0); have n1_ := Aside0.mk (Kd.S_lower ho1 (below_size (by repeat (first | (with_reducible first | exact HB.out | apply below_alloc | apply pw_below_drewN | apply below_drew1 | refine below_set ?_ GE668.out) | exact HB.out)))); have n2_ := Aside0.mk (blk_below (g := gb668) (o := .cells #[.int .i64 0, .int .i64 0, .slice none 0 0, .int .i64 0, .int .i64 0, .slice none 0 0] 29 (0, 0)) (by (with_reducible repeat (first | refine blk_drewN ?_ _ | refine blk_drew ?_ | refine blk_alloc ?_ _)); exact BK668.out) hb); have n3_ := Aside0.mk (below_step (by repeat (first | (with_reducible first | exact HB.out | apply below_alloc | apply pw_below_drewN | apply below_drew1 | refine below_set ?_ GE668.out) | exact HB.out)) hb); clear BK668; clear HB; have HO673 := n0_; have HO678 := n1_; have BK668 := n2_; have HB := n3_; clear n0_ n1_ n2_ n3_; (try clear hb); (try clear hb2); (try clear hk); (try clear hi); (try clear ho0); (try clear ho1); obtain ⟨Ao13, co13, eo13⟩ := Kd.S_slice HO678.out; subst eo13; obtain ⟨Ao14, co14, eo14⟩ := Kd.S_slice HO673.out; subst eo14; have hcz15_0 : w12.cell? ⟨gb668, 0, none⟩ = some (.int .i64 0) := (blk_cell BK668.out 0).trans (by first | rfl | (simp only [*] <;> rfl)); have hcz15_1 : w12.cell? ⟨gb668, 1, none⟩ = some (.int .i64 0) := (blk_cell BK668.out 1).trans (by first | rfl | (simp only [*] <;> rfl)); have hcz15_2 : w12.cell? ⟨gb668, 2, none⟩ = some (.slice none 0 0) := (blk_cell BK668.out 2).trans (by first | rfl | (simp only [*] <;> rfl)); have hcz15_3 : w12.cell? ⟨gb668, 3, none⟩ = some (.int .i64 0) := (blk_cell BK668.out 3).trans (by first | rfl | (simp only [*] <;> rfl)); have hcz15_4 : w12.cell? ⟨gb668, 4, none⟩ = some (.int .i64 0) := (blk_cell BK668.out 4).trans (by first | rfl | (simp only [*] <;> rfl)); have hcz15_5 : w12.cell? ⟨gb668, 5, none⟩ = some (.slice none 0 0) := (blk_cell BK668.out 5).trans (by first | rfl | (simp only [*] <;> rfl)); have hfz15_0 := blk_frozen BK668.out 0; have hfz15_1 := blk_frozen BK668.out 1; have hfz15_2 := blk_frozen BK668.out 2; have hfz15_3 := blk_frozen BK668.out 3; have hfz15_4 := blk_frozen BK668.out 4; have hfz15_5 := blk_frozen BK668.out 5))
          refine bodyPost_ret (results_cell_row rfl _ _ gb668 29 #[.int .i64 0, .int .i64 t670, .slice Ao14 t671.length co14, .int .i64 t674, .int .i64 t675, .slice Ao13 t676.length co13] (0, 0) _ rfl (by (with_reducible repeat (first | refine blk_drewN ?_ _ | refine blk_drew ?_ | refine blk_alloc ?_ _)); refine blk_put (cs := #[.int .i64 0, .int .i64 t670, .slice Ao14 t671.length co14, .int .i64 t674, .int .i64 t675, .slice none 0 0]) ?_ 5 _ rfl; (with_reducible repeat (first | refine blk_drewN ?_ _ | refine blk_drew ?_ | refine blk_alloc ?_ _)); refine blk_put (cs := #[.int .i64 0, .int .i64 t670, .slice Ao14 t671.length co14, .int .i64 t674, .int .i64 0, .slice none 0 0]) ?_ 4 _ rfl; (with_reducible repeat (first | refine blk_drewN ?_ _ | refine blk_drew ?_ | refine blk_alloc ?_ _)); refine blk_put (cs := #[.int .i64 0, .int .i64 t670, .slice Ao14 t671.length co14, .int .i64 0, .int .i64 0, .slice none 0 0]) ?_ 3 _ rfl; (with_reducible repeat (first | refine blk_drewN ?_ _ | refine blk_drew ?_ | refine blk_alloc ?_ _)); refine blk_put (cs := #[.int .i64 0, .int .i64 t670, .slice none 0 0, .int .i64 0, .int .i64 0, .slice none 0 0]) ?_ 2 _ rfl; (with_reducible repeat (first | refine blk_drewN ?_ _ | refine blk_drew ?_ | refine blk_alloc ?_ _)); refine blk_put (cs := #[.int .i64 0, .int .i64 0, .slice none 0 0, .int .i64 0, .int .i64 0, .slice none 0 0]) ?_ 1 _ rfl; (with_reducible repeat (first | refine blk_drewN ?_ _ | refine blk_drew ?_ | refine blk_alloc ?_ _)); refine blk_put (cs := #[.int .i64 0, .int .i64 0, .slice none 0 0, .int .i64 0, .int .i64 0, .slice none 0 0]) ?_ 0 _ rfl; (with_reducible repeat (first | refine blk_drewN ?_ _ | refine blk_drew ?_ | refine blk_alloc ?_ _)); exact BK668.out) Try.underlying29 rfl (by kernel_rfl)) rfl ?_
          exact ⟨m12, _, _, by first | rfl | (simp [errW_none, errW_some] <;> rfl) | (simp [*, errW_none, errW_some] <;> rfl), MM.out, by (with_reducible repeat (first | apply Kd.S_alloc | apply Kd.S_drewN | apply Kd.S_drew)); exact Kd.S_mono (Kd.S_far (p := ⟨gb668, 5, none⟩) (Kd.S_far (p := ⟨gb668, 4, none⟩) (Kd.S_far (p := ⟨gb668, 3, none⟩) (Kd.S_far (p := ⟨gb668, 2, none⟩) (Kd.S_far (p := ⟨gb668, 1, none⟩) (Kd.S_far (p := ⟨gb668, 0, none⟩) (Kd.S_types HO673.out BK668.out (by decide)) (fun _ hk => hk.2) (.int .i64 0)) (fun _ hk => hk.2) (.int .i64 t670)) (fun _ hk => hk.2) (.slice Ao14 t671.length co14)) (fun _ hk => hk.2) (.int .i64 t674)) (fun _ hk => hk.2) (.int .i64 t675)) (fun _ hk => hk.2) (.slice Ao13 t676.length co13)) (fun _ hk => hk.1), by (with_reducible repeat (first | apply Kd.S_alloc | apply Kd.S_drewN | apply Kd.S_drew)); exact Kd.S_mono (Kd.S_far (p := ⟨gb668, 5, none⟩) (Kd.S_far (p := ⟨gb668, 4, none⟩) (Kd.S_far (p := ⟨gb668, 3, none⟩) (Kd.S_far (p := ⟨gb668, 2, none⟩) (Kd.S_far (p := ⟨gb668, 1, none⟩) (Kd.S_far (p := ⟨gb668, 0, none⟩) (Kd.S_types HO678.out BK668.out (by decide)) (fun _ hk => hk.2) (.int .i64 0)) (fun _ hk => hk.2) (.int .i64 t670)) (fun _ hk => hk.2) (.slice Ao14 t671.length co14)) (fun _ hk => hk.2) (.int .i64 t674)) (fun _ hk => hk.2) (.int .i64 t675)) (fun _ hk => hk.2) (.slice Ao13 t676.length co13)) (fun _ hk => hk.1), by repeat (first | (with_reducible first | exact HB.out | apply below_alloc | apply pw_below_drewN | apply below_drew1 | refine below_set ?_ GE668.out) | exact HB.out)⟩
        · replace c10 := Bool.eq_false_iff.mpr c10
          subst c10
          have H1 : (some (3, 0, ([] : List (List Int)), 0, 0, ([] : List (List Int)))) = some (r1, r2, r3, r4, r5, r6) := by rw [if_neg (show ¬ (false = true) by decide)] at H; exact H
          clear H
          have H := H1
          clear H1
          simp only [Option.some.injEq, Prod.mk.injEq] at H
          obtain ⟨rfl, rfl, rfl, rfl, rfl, rfl⟩ := H
          go_wp2_with (first | ((with_reducible refine gate_callee (f := 34) rfl ?_); refine goesL_ (some 17) rfl rfl Try.func34 (by kernel_rfl) rfl #[.int .i64 a1] rfl (by (try simp only [List.map_toArray, List.map_cons, List.map_nil]); first | done | rfl | (simp only [List.length_drop, List.length_take]; rfl)) ?_; (with_reducible refine (impl_isLeaf.calls a1 false _ A9.out).mono ?_); rintro e w' ⟨rfl, ⟨nd, rfl⟩⟩; refine ⟨_, rfl, ?_⟩; (try (rw [drewN_self wc]; generalize hq_ : World.drewN wc _ = wc; have n0_ : Aside0 (wc.heap[gb668]? = some (.cells #[.int .i64 0, .int .i64 0, .slice none 0 0, .int .i64 0, .int .i64 0, .slice none 0 0] 29 (0, 0))) := ⟨by rw [← hq_]; exact (by (with_reducible repeat (first | refine blk_drewN ?_ _ | refine blk_drew ?_ | refine blk_alloc ?_ _)); exact BK668.out)⟩; have n1_ : Aside0 (Below w.heap.size w wc) := ⟨by rw [← hq_]; exact (by repeat (first | (with_reducible first | exact HB.out | apply below_alloc | apply pw_below_drewN | apply below_drew1 | refine below_set ?_ GE668.out) | exact HB.out))⟩; clear BK668 HB hq_; have BK668 := n0_; have HB := n1_; clear n0_ n1_)); have hcz16_0 : wc.cell? ⟨gb668, 0, none⟩ = some (.int .i64 0) := (blk_cell BK668.out 0).trans (by first | rfl | (simp only [*] <;> rfl)); have hcz16_1 : wc.cell? ⟨gb668, 1, none⟩ = some (.int .i64 0) := (blk_cell BK668.out 1).trans (by first | rfl | (simp only [*] <;> rfl)); have hcz16_2 : wc.cell? ⟨gb668, 2, none⟩ = some (.slice none 0 0) := (blk_cell BK668.out 2).trans (by first | rfl | (simp only [*] <;> rfl)); have hcz16_3 : wc.cell? ⟨gb668, 3, none⟩ = some (.int .i64 0) := (blk_cell BK668.out 3).trans (by first | rfl | (simp only [*] <;> rfl)); have hcz16_4 : wc.cell? ⟨gb668, 4, none⟩ = some (.int .i64 0) := (blk_cell BK668.out 4).trans (by first | rfl | (simp only [*] <;> rfl)); have hcz16_5 : wc.cell? ⟨gb668, 5, none⟩ = some (.slice none 0 0) := (blk_cell BK668.out 5).trans (by first | rfl | (simp only [*] <;> rfl)); have hfz16_0 := blk_frozen BK668.out 0; have hfz16_1 := blk_frozen BK668.out 1; have hfz16_2 := blk_frozen BK668.out 2; have hfz16_3 := blk_frozen BK668.out 3; have hfz16_4 := blk_frozen BK668.out 4; have hfz16_5 := blk_frozen BK668.out 5))
          refine bodyPost_ret (results_cell_row rfl _ _ gb668 29 #[.int .i64 3, .int .i64 0, .slice none 0 0, .int .i64 0, .int .i64 0, .slice none 0 0] (0, 0) _ rfl (by (with_reducible repeat (first | refine blk_drewN ?_ _ | refine blk_drew ?_ | refine blk_alloc ?_ _)); refine blk_put (cs := #[.int .i64 3, .int .i64 0, .slice none 0 0, .int .i64 0, .int .i64 0, .slice none 0 0]) ?_ 5 _ rfl; (with_reducible repeat (first | refine blk_drewN ?_ _ | refine blk_drew ?_ | refine blk_alloc ?_ _)); refine blk_put (cs := #[.int .i64 3, .int .i64 0, .slice none 0 0, .int .i64 0, .int .i64 0, .slice none 0 0]) ?_ 4 _ rfl; (with_reducible repeat (first | refine blk_drewN ?_ _ | refine blk_drew ?_ | refine blk_alloc ?_ _)); refine blk_put (cs := #[.int .i64 3, .int .i64 0, .slice none 0 0, .int .i64 0, .int .i64 0, .slice none 0 0]) ?_ 3 _ rfl; (with_reducible repeat (first | refine blk_drewN ?_ _ | refine blk_drew ?_ | refine blk_alloc ?_ _)); refine blk_put (cs := #[.int .i64 3, .int .i64 0, .slice none 0 0, .int .i64 0, .int .i64 0, .slice none 0 0]) ?_ 2 _ rfl; (with_reducible repeat (first | refine blk_drewN ?_ _ | refine blk_drew ?_ | refine blk_alloc ?_ _)); refine blk_put (cs := #[.int .i64 3, .int .i64 0, .slice none 0 0, .int .i64 0, .int .i64 0, .slice none 0 0]) ?_ 1 _ rfl; (with_reducible repeat (first | refine blk_drewN ?_ _ | refine blk_drew ?_ | refine blk_alloc ?_ _)); refine blk_put (cs := #[.int .i64 0, .int .i64 0, .slice none 0 0, .int .i64 0, .int .i64 0, .slice none 0 0]) ?_ 0 _ rfl; (with_reducible repeat (first | refine blk_drewN ?_ _ | refine blk_drew ?_ | refine blk_alloc ?_ _)); exact BK668.out) Try.underlying29 rfl (by kernel_rfl)) rfl ?_
          exact ⟨w.heap.size, _, _, by first | rfl | (simp [errW_none, errW_some] <;> rfl) | (simp [*, errW_none, errW_some] <;> rfl), Nat.le_refl _, by first | exact Kd.S_nil _ _ _ _ _ | exact Kd.N_nil _ _ _ _ _ | exact Kd.V_nil _ _ _ _ _ | exact Kd.Q_nil _ _ _ _ _ | exact Kd.R_nil _ _ _ _ _, by first | exact Kd.S_nil _ _ _ _ _ | exact Kd.N_nil _ _ _ _ _ | exact Kd.V_nil _ _ _ _ _ | exact Kd.Q_nil _ _ _ _ _ | exact Kd.R_nil _ _ _ _ _, by repeat (first | (with_reducible first | exact HB.out | apply below_alloc | apply pw_below_drewN | apply below_drew1 | refine below_set ?_ GE668.out) | exact HB.out)⟩


end Go.Proofs.Ytchmaojmknfbpaa.S
