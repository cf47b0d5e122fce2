/- Each function of the program that stands below is a plain Lean function, and the call of the program comes to what that function says. No condition beyond those in the statements. -/
import Derived.Test.YtchmaojmknfbpaaSx0
import Derived.Test.YtchmaojmknfbpaaSxSpecTree
import Derived.Test.YtchmaojmknfbpaaSxSpecL3ProveY
import Derived.Test.YtchmaojmknfbpaaSxSpecL1D
import Derived.Test.YtchmaojmknfbpaaSxSpecL3LeavesY
namespace Go.Proofs.Ytchmaojmknfbpaa.S
open Go.RowKit Go.Proofs.YtchmaojmknfbpaaW.PrintWords Go.Proofs.YtchmaojmknfbpaaW.PrintLast Go.Proofs.YtchmaojmknfbpaaW.PrintMore
attribute [local go_sem] max2_int min2_int max_two min_two max_three min_three max_four min_four   -- for this text's walks alone
set_option linter.unusedVariables false
set_option linter.unusedSimpArgs false
def HoldD (p : Prop) : Prop := p
theorem holdD_here {p : Prop} (h : HoldD p) : p := h
theorem holdD_go {p : Prop} (h : p) : HoldD p := h

/-! ### spec_l3Draw: function 55 -/
mutual
def spec_l3Draw.j0 : Nat → List (List Int) → Bool → List Int → Int → Option (List Int × List Int × Int × Int × (List (List Int)) × Int)
  | 0, _, _, _, _ => none
  | k + 1, x5, x19, x1000, x1001 => if x19 = true then (spec_l3Draw.j1 k (([(([1] : List Int))] : List (List Int))) x1000 x1001) else (spec_l3Draw.j1 k x5 x1000 x1001)
def spec_l3Draw.j1 : Nat → List (List Int) → List Int → Int → Option (List Int × List Int × Int × Int × (List (List Int)) × Int)
  | 0, _, _, _ => none
  | k + 1, x5, x1000, x1001 => (spec_l1Next.f x1000 x1001 (x5.length : Int)).bind fun bt846 => ((spec_l3Prove.f k x5 bt846.1).bind fun bt848 => ((spec_l3Root.f k x5).bind fun t854 => ((some (([] : List Int) : List Int)).bind fun y857 => (if 0 ≤ bt846.1 then (if bt846.1 < (x5.length : Int) then (if y857.length + (rd_L1 x5 bt846.1).length < 140737488355328 then ((some (y857 ++ (rd_L1 x5 bt846.1) : List Int)).bind fun y861 => ((spec_l1Next.f x1000 bt846.2 10).bind fun bt864 => (if bt864.1 = 0 then (if y861.length < 140737488355328 then (some (t854, (y861 ++ [0]), bt848.1, bt848.2.1, bt848.2.2, bt864.2)) else (none)) else (if bt864.1 = 1 then ((spec_l1Pick.f x1000 bt864.2 (([0, (-1), bt848.2.1, wrap64 (bt848.2.1 - 1), 4611686018427387904] : List Int))).bind fun bt872 => (some (t854, y861, bt872.1, bt848.2.1, bt848.2.2, bt872.2))) else (if bt864.1 = 2 then ((spec_l1Pick.f x1000 bt864.2 (([wrap64 (bt848.2.1 + 1), 0, 17, wrap64 (bt848.2.1 - 1)] : List Int))).bind fun bt877 => (some (t854, y861, bt848.1, bt877.1, bt848.2.2, bt877.2))) else (if bt864.1 = 3 then ((spec_l1Some.f k x1000 bt864.2 32).bind fun bt879 => (if bt848.2.2.length < 5864062014805 then (some (t854, y861, bt848.1, bt848.2.1, (bt848.2.2 ++ [bt879.1]), bt879.2)) else (none))) else (if bt864.1 = 4 then (if (bt848.2.2.length : Int) > 0 then ((spec_l1Next.f x1000 bt864.2 2).bind fun bt886 => ((spec_l1Some.f k x1000 bt886.2 (wrap64 (32 - bt886.1))).bind fun bt888 => (if 0 < (bt848.2.2.length : Int) then (some (t854, y861, bt848.1, bt848.2.1, (bt848.2.2.set (0 : Int).toNat bt888.1), bt888.2)) else (none)))) else (some (t854, y861, bt848.1, bt848.2.1, bt848.2.2, bt864.2))) else (if bt864.1 = 5 then ((spec_l1Some.f k x1000 bt864.2 32).bind fun bt893 => (some (bt893.1, y861, bt848.1, bt848.2.1, bt848.2.2, bt893.2))) else (some (t854, y861, bt848.1, bt848.2.1, bt848.2.2, bt864.2)))))))))) else (none)) else (none)) else (none)))))
end
def spec_l3Draw.f (k : Nat) (s0_0 : List Int) (s0_1 : Int) : Option (List Int × List Int × Int × Int × (List (List Int)) × Int) := (spec_l3Leaves.f k s0_0 s0_1).bind fun bt836 => (if (bt836.1.length : Int) = 0 then (spec_l3Draw.j0 k bt836.1 true s0_0 bt836.2) else (spec_l3Draw.j0 k bt836.1 (decide ((bt836.1.length : Int) > 16)) s0_0 bt836.2))
def spec_l3Draw.T16 : Bool × List (List Nat × List Nat) := (true, [([], []), ([0], [0]), ([], []), ([2], [2]), ([3], [3]), ([1, 4, 3], [1, 4]), ([0, 1, 2, 3, 4, 5], []), ([6, 5, 5, 0, 1, 2, 3, 4, 5], [5, 6])])
def spec_l3Draw.B16 : List Nat := [0, 1, 0, 4, 12, 31, 63, 127]
theorem spec_l3Draw.tab16 : rtab .any (opsOf Try.f55 16) = spec_l3Draw.T16 := by kernel_rfl
theorem spec_l3Draw.bits16 : waitsOk spec_l3Draw.T16.2 spec_l3Draw.B16 = true := by kernel_rfl
def spec_l3Draw.T19 : Bool × List (List Nat × List Nat) := (true, [([], []), ([0], [0]), ([], []), ([], []), ([3], [3]), ([4], [4]), ([2, 5, 4], [2, 5]), ([1, 0, 1, 2, 3, 4, 5, 6], [1]), ([7, 6, 6, 0, 1, 2, 3, 4, 5, 6], [6, 7])])
def spec_l3Draw.B19 : List Nat := [0, 1, 0, 0, 8, 24, 60, 127, 255]
theorem spec_l3Draw.tab19 : rtab .any (opsOf Try.f55 19) = spec_l3Draw.T19 := by kernel_rfl
theorem spec_l3Draw.bits19 : waitsOk spec_l3Draw.T19.2 spec_l3Draw.B19 = true := by kernel_rfl
set_option maxHeartbeats 8000000 in
set_option maxRecDepth 100000 in
theorem spec_l3Draw.calls (k : Nat) (g : Nat) (s0_0 : List Int) (s0_1 : Int) (r1 : List Int) (r2 : List Int) (r3 : Int) (r4 : Int) (r5 : List (List Int)) (r6 : Int) (w0 w : World) (hI : IsS99 w0 w g s0_0 s0_1) (hB : Below w0.heap.size w0 w) (h : spec_l3Draw.f k s0_0 s0_1 = some (r1, r2, r3, r4, r5, r6)) :
    Calls Try.prog 55 #[.pointer (some ⟨g, 0, none⟩)] w fun e w' => ∃ v0_ v1_ v4_ : Value, e = .returned (.tuple #[v0_, v1_, .agg #[.int .i64 r3, .int .i64 r4, v4_]]) ∧ Kd.R (Kd.int .u8) 5 w' w.heap.size (fun k_ => (w.heap.size ≤ k_) ∧ some k_ ≠ (v1_ : Value).ownBlock) v0_ r1 ∧ Kd.R (Kd.int .u8) 5 w' w.heap.size (fun k_ => (w.heap.size ≤ k_) ∧ some k_ ≠ (v0_ : Value).ownBlock) v1_ r2 ∧ Kd.N (Kd.slice 5 (Kd.int .u8)) 22 w' w.heap.size (fun k_ => (w.heap.size ≤ k_) ∧ some k_ ≠ (v0_ : Value).ownBlock ∧ some k_ ≠ (v1_ : Value).ownBlock) v4_ r5 ∧ IsS99 w0 w' g s0_0 r6 ∧ Below w0.heap.size w0 w' ∧ KeepBut w w' g none := by
  have hu25 := Try.underlying25
  have HI0 := Aside0.mk hI
  have HK := Aside0.mk (KeepBut.refl w g none)
  have HL := Aside0.mk hB.size
  clear hI
  have HW0 := Aside0.mk hB.size
  have HB := Aside0.mk hB
  clear hB
  have H : ((spec_l3Leaves.f k s0_0 s0_1).bind fun bt836 => (if (bt836.1.length : Int) = 0 then (spec_l3Draw.j0 k bt836.1 true s0_0 bt836.2) else (spec_l3Draw.j0 k bt836.1 (decide ((bt836.1.length : Int) > 16)) s0_0 bt836.2))) = some (r1, r2, r3, r4, r5, r6) := h
  clear h
  replace H := Option.bind_eq_some_iff.mp H
  obtain ⟨⟨t836, t839⟩, A20, H⟩ := H
  replace H : (if (t836.length : Int) = 0 then (spec_l3Draw.j0 k t836 true s0_0 t839) else (spec_l3Draw.j0 k t836 (decide ((t836.length : Int) > 16)) s0_0 t839)) = some (r1, r2, r3, r4, r5, r6) := H
  have A2 := Aside0.mk A20
  clear A20
  have HC3 := Aside0.mk H
  clear H
  go_enter Try.func55, Try.ntmps55
  go_upto_region 2 with (first | ((with_reducible refine gate_dst (N := 4) rfl ?_); (try (refine gate_guard (by rfl) ?_; dsimp only)); refine box_event ?hg (N := 4) ?hd (cs := #[.int .i64 0, .int .i64 0, .slice none 0 0]) (t := 25) ?hr ?_; (case hd => rfl); (case hg => rfl); (case hr => first | (go_simp; done) | (go_simp; rfl)); intro gb835 hg w4 hbox hb; have n0_ := Aside0.mk (IsS99.below (by repeat (first | (with_reducible first | exact HI0.out | apply IsS99.alloc | apply IsS99.drewN | apply IsS99.drew | apply IsS99.set_1) | exact HI0.out)) hb); have n1_ := Aside0.mk (KeepBut.trans (by repeat (first | (with_reducible first | exact HK.out | apply KeepBut.set_ | apply keep_drewN | apply keep_drew | apply keep_alloc) | exact HK.out)) (KeepBut.of_below hb g none) (.inl rfl)); have n2_ := Aside0.mk (below_step (by repeat (first | (with_reducible first | exact HB.out | apply below_alloc | apply pw_below_drewN | apply below_drew1 | refine below_set ?_ (IsS99.ge HI0.out)) | exact HB.out)) hb); have n3_ := Aside0.mk (hbox); have n4_ := Aside0.mk ((by rw [hg]; exact (keep_size (w := w) (g := g) (row := none) (by repeat (first | (with_reducible first | exact HK.out | apply KeepBut.set_ | apply keep_drewN | apply keep_drew | apply keep_alloc) | exact HK.out))) : w.heap.size ≤ gb835)); have n5_ := Aside0.mk ((Nat.le_trans HW0.out (by rw [hg]; exact (keep_size (w := w) (g := g) (row := none) (by repeat (first | (with_reducible first | exact HK.out | apply KeepBut.set_ | apply keep_drewN | apply keep_drew | apply keep_alloc) | exact HK.out))) : w.heap.size ≤ gb835) : w0.heap.size ≤ gb835)); have n6_ := Aside0.mk ((by rw [hg]; exact Nat.ne_of_lt (IsS99.lt (show IsS99 w0 _ g s0_0 s0_1 from by repeat (first | (with_reducible first | exact HI0.out | apply IsS99.alloc | apply IsS99.drewN | apply IsS99.drew | apply IsS99.set_1) | exact HI0.out))) : g ≠ gb835)); have n7_ := Aside0.mk ((by rw [hg]; exact Nat.ne_of_gt (IsS99.lt (show IsS99 w0 _ g s0_0 s0_1 from by repeat (first | (with_reducible first | exact HI0.out | apply IsS99.alloc | apply IsS99.drewN | apply IsS99.drew | apply IsS99.set_1) | exact HI0.out))) : gb835 ≠ g)); clear HI0; clear HK; clear HB; have HI0 := n0_; have HK := n1_; have HB := n2_; have BK835 := n3_; have GW835 := n4_; have GE835 := n5_; have NB0_835 := n6_; have NB835_0 := n7_; clear n0_ n1_ n2_ n3_ n4_ n5_ n6_ n7_; clear hb hbox hg) | ((with_reducible refine gate_callee (f := 82) rfl ?_); refine goesL_ (some 11) rfl rfl Try.func82 (by kernel_rfl) rfl #[.pointer (some ⟨g, 0, none⟩)] rfl (by (try simp only [List.map_toArray, List.map_cons, List.map_nil]); first | done | rfl | (simp only [List.length_drop, List.length_take]; rfl)) ?_; (with_reducible refine (spec_l3Leaves.calls k g s0_0 s0_1 t836 t839 w0 _ ?side1 ?side2 A2.out).mono ?_); (case side1 => repeat (first | (with_reducible first | exact HI0.out | apply IsS99.alloc | apply IsS99.drewN | apply IsS99.drew | apply IsS99.set_1 | refine IsS99.far ?_ NB0_835.out _) | exact HI0.out)); (case side2 => repeat (first | (with_reducible first | exact HB.out | apply below_alloc | apply pw_below_drewN | apply below_drew1 | refine below_set ?_ (IsS99.ge HI0.out) | refine below_set ?_ GE835.out) | exact HB.out)); rintro e w5 ⟨v837, rfl, ho0, hi, hb, hk⟩; refine ⟨_, rfl, ?_⟩; have n0_ := Aside0.mk (KeepBut.blk hk (g' := gb835) (o := .cells #[.int .i64 0, .int .i64 0, .slice none 0 0] 25 (0, 0)) (by (with_reducible repeat (first | refine blk_drewN ?_ _ | refine blk_drew ?_ | refine blk_alloc ?_ _)); exact BK835.out) NB835_0.out (by simp)); have n1_ := Aside0.mk (Kd.N_lower (Kd.N_mono (ok' := fun k_ => (w.heap.size ≤ k_) ∧ k_ ≠ gb835 ∧ k_ ≠ g) (Kd.S_N (Kd.S_bound ho0)) (fun k_ hk_ => ⟨(Nat.le_trans (keep_size (w := w) (g := g) (row := none) (by repeat (first | (with_reducible first | exact HK.out | apply KeepBut.set_ | apply keep_drewN | apply keep_drew | apply keep_alloc | refine keep_far ?_ GW835.out _) | exact HK.out))) hk_.2.1), (Kd.freshB (g := gb835) (o := .cells #[.int .i64 0, .int .i64 0, .slice none 0 0] 25 (0, 0)) (by (with_reducible repeat (first | refine blk_drewN ?_ _ | refine blk_drew ?_ | refine blk_alloc ?_ _)); exact BK835.out) k_ hk_.2.1), (IsS99.fresh (by repeat (first | (with_reducible first | exact HI0.out | apply IsS99.alloc | apply IsS99.drewN | apply IsS99.drew | apply IsS99.set_1 | refine IsS99.far ?_ NB0_835.out _) | exact HI0.out)) k_ hk_.2.1)⟩)) (keep_size (w := w) (g := g) (row := none) (by repeat (first | (with_reducible first | exact HK.out | apply KeepBut.set_ | apply keep_drewN | apply keep_drew | apply keep_alloc | refine keep_far ?_ GW835.out _) | exact HK.out)))); have n2_ := Aside0.mk (KeepBut.trans (by repeat (first | (with_reducible first | exact HK.out | apply KeepBut.set_ | apply keep_drewN | apply keep_drew | apply keep_alloc | refine keep_far ?_ GW835.out _) | exact HK.out)) hk (.inl rfl)); have n3_ := Aside0.mk (hb); have n4_ := Aside0.mk (hi); clear BK835; clear HK; clear HB; clear HI0; have BK835 := n0_; have HO838 := n1_; have HK := n2_; have HB := n3_; have HI0 := n4_; clear n0_ n1_ n2_ n3_ n4_; (try clear hb); (try clear hb2); (try clear hk); (try clear hi); (try clear ho0)))
  (try simp only [Act.put, List.setIfInBounds_toArray, List.set_cons_zero, List.set_cons_succ])
  go_cut [19] (fun v19 wc => ∃ (kq : Nat) (x19_2 : Bool), v19 = .bool x19_2 ∧ Aside0 (spec_l3Draw.j0 kq t836 x19_2 s0_0 t839 = some (r1, r2, r3, r4, r5, r6)) ∧ Aside0 (kq ≤ k) ∧ Aside0 (Kd.N (Kd.slice 5 (Kd.int .u8)) 22 wc w.heap.size (fun k_ => (w.heap.size ≤ k_) ∧ k_ ≠ gb835 ∧ k_ ≠ g) v837 t836) ∧ Aside0 (wc.heap[gb835]? = some (.cells #[.int .i64 0, .int .i64 0, (.slice none 0 0)] 25 (0, 0))) ∧ Aside0 (IsS99 w0 wc g s0_0 t839) ∧ Aside0 (KeepBut w wc g none) ∧ Aside0 (Below w0.heap.size w0 wc))
  case first =>
    have H := HC3.out
    clear HC3
    by_cases c6 : (t836.length : Int) = 0
    · rw [if_pos c6] at H
      have c6b0 : ((t836.length : Int) == 0) = true := beq_iff_eq.mpr c6
      have c6b1 : ((t836.length : Int) != 0) = false := bne_eq_false_iff_eq.mpr c6
      clear c6
      (first | rw [c6b0] | (simp only [i64_w, i32_w]; rw [c6b0]) | skip)
      have H' := Aside0.mk H
      clear H
      obtain ⟨Ao7, co7, eo7⟩ := Kd.N_slice HO838.out
      subst eo7
      go_wp2
      go_meet
      case rel => exact ⟨_, (true), (by first | rfl | (simp; done) | (simp [*]; done)), H', ⟨by first | omega | exact Nat.le_refl _⟩, ⟨by (with_reducible repeat (first | apply Kd.N_alloc | apply Kd.N_drewN | apply Kd.N_drew)); exact HO838.out⟩, ⟨by (with_reducible repeat (first | refine blk_drewN ?_ _ | refine blk_drew ?_ | refine blk_alloc ?_ _)); exact BK835.out⟩, ⟨by repeat (first | (with_reducible first | exact HI0.out | apply IsS99.alloc | apply IsS99.drewN | apply IsS99.drew | apply IsS99.set_1 | refine IsS99.far ?_ NB0_835.out _) | exact HI0.out)⟩, ⟨by repeat (first | (with_reducible first | exact HK.out | apply KeepBut.set_ | apply keep_drewN | apply keep_drew | apply keep_alloc | refine keep_far ?_ GW835.out _) | exact HK.out)⟩, ⟨by repeat (first | (with_reducible first | exact HB.out | apply below_alloc | apply pw_below_drewN | apply below_drew1 | refine below_set ?_ (IsS99.ge HI0.out) | refine below_set ?_ GE835.out) | exact HB.out)⟩⟩
    · rw [if_neg c6] at H
      have c6b0 : ((t836.length : Int) == 0) = false := beq_eq_false_iff_ne.mpr c6
      have c6b1 : ((t836.length : Int) != 0) = true := bne_iff_ne.mpr c6
      have c6b2 : ¬ (t836 = []) := fun h_ => c6 (by rw [h_]; rfl)
      (first | rw [c6b0] | (simp only [i64_w, i32_w]; rw [c6b0]) | skip)
      have H' := Aside0.mk H
      clear H
      obtain ⟨Ao8, co8, eo8⟩ := Kd.N_slice HO838.out
      subst eo8
      go_wp2
      go_meet
      case rel => exact ⟨_, (decide ((t836.length : Int) > 16)), (by first | rfl | (simp; done) | (simp [*]; done)), H', ⟨by first | omega | exact Nat.le_refl _⟩, ⟨by (with_reducible repeat (first | apply Kd.N_alloc | apply Kd.N_drewN | apply Kd.N_drew)); exact HO838.out⟩, ⟨by (with_reducible repeat (first | refine blk_drewN ?_ _ | refine blk_drew ?_ | refine blk_alloc ?_ _)); exact BK835.out⟩, ⟨by repeat (first | (with_reducible first | exact HI0.out | apply IsS99.alloc | apply IsS99.drewN | apply IsS99.drew | apply IsS99.set_1 | refine IsS99.far ?_ NB0_835.out _) | exact HI0.out)⟩, ⟨by repeat (first | (with_reducible first | exact HK.out | apply KeepBut.set_ | apply keep_drewN | apply keep_drew | apply keep_alloc | refine keep_far ?_ GW835.out _) | exact HK.out)⟩, ⟨by repeat (first | (with_reducible first | exact HB.out | apply below_alloc | apply pw_below_drewN | apply below_drew1 | refine below_set ?_ (IsS99.ge HI0.out) | refine below_set ?_ GE835.out) | exact HB.out)⟩⟩
  case rest =>
    clear HC3
    try clear p2
    try clear c5
    try clear c6
    try clear c6b0
    try clear c6b1
    try clear c6b2
    try clear c8
    obtain ⟨kq, x19_2, rfl, HA, HJ2, HO_5, BK835, HI0, HK, HB⟩ := hcut
    cases kq with
    | zero => exact absurd HA.out (by simp [spec_l3Draw.j0])
    | succ kj2 =>
      have H := HA.out
      clear HA
      simp only [spec_l3Draw.j0] at H
      have HC9 := Aside0.mk H
      clear H
      go_upto_if 19 with (fail)
      go_cut [5] (fun v5 wc => ∃ (kq : Nat) (x5_8 : List (List Int)), Aside0 (spec_l3Draw.j1 kq x5_8 s0_0 t839 = some (r1, r2, r3, r4, r5, r6)) ∧ Aside0 (kq ≤ kj2) ∧ Aside0 (Kd.N (Kd.slice 5 (Kd.int .u8)) 22 wc w.heap.size (fun k_ => (w.heap.size ≤ k_) ∧ k_ ≠ gb835 ∧ k_ ≠ g) v5 x5_8) ∧ Aside0 (wc.heap[gb835]? = some (.cells #[.int .i64 0, .int .i64 0, (.slice none 0 0)] 25 (0, 0))) ∧ Aside0 (IsS99 w0 wc g s0_0 t839) ∧ Aside0 (KeepBut w wc g none) ∧ Aside0 (Below w0.heap.size w0 wc))
      case first =>
        have H := HC9.out
        clear HC9
        by_cases c10 : x19_2 = true
        · subst c10
          have H1 : (spec_l3Draw.j1 kj2 (([(([1] : List Int))] : List (List Int))) s0_0 t839) = some (r1, r2, r3, r4, r5, r6) := by rw [if_pos rfl] at H; exact H
          clear H
          have H := H1
          clear H1
          obtain ⟨y840, hy840⟩ : ∃ y_ : List Int, y_ = (([1] : List Int)) := ⟨_, rfl⟩
          replace H : (spec_l3Draw.j1 kj2 (([y840] : List (List Int))) s0_0 t839) = some (r1, r2, r3, r4, r5, r6) := by first | (rw [hy840]; with_reducible exact H) | (have H2_ := (Option.bind_some _ _).symm.trans H; rw [hy840]; with_reducible exact H2_) | (have H2_ := (Option.bind_some _ _).symm.trans H; with_reducible exact H2_) | with_reducible exact H | (rw [hy840]; exact H) | exact H
          have Ny840 := Aside0.mk hy840
          clear hy840
          obtain ⟨y843, hy843⟩ : ∃ y_ : List (List Int), y_ = (([y840] : List (List Int))) := ⟨_, rfl⟩
          replace H : (spec_l3Draw.j1 kj2 y843 s0_0 t839) = some (r1, r2, r3, r4, r5, r6) := by first | (rw [hy843]; with_reducible exact H) | (have H2_ := (Option.bind_some _ _).symm.trans H; rw [hy843]; with_reducible exact H2_) | (have H2_ := (Option.bind_some _ _).symm.trans H; with_reducible exact H2_) | with_reducible exact H | (rw [hy843]; exact H) | exact H
          have Ny843 := Aside0.mk hy843
          clear hy843
          have H' := Aside0.mk H
          clear H
          go_wp2_with (first | ((with_reducible refine gate_dst (N := 20) rfl ?_); (try (refine gate_guard (by rfl) ?_; dsimp only)); refine Kd.R_lit (Kd.int .u8) _ 5 ?hg (N := 20) ?hd (xs := ([1] : List Int)) (inner := [.int .u8 1]) (ok := fun _ => True) (okp := fun _ => True) ?hr ?hp (fun _ hk => hk) trivial (Below.refl _ _) (Nat.le_refl _) (by simp) ?_; (case hd => rfl); (case hg => rfl); (case hr => first | (go_simp; done) | (go_simp; rfl)); (case hp => exact (Reps.one (show Kd.M (Kd.int .u8) _ _ _ 1 [.int .u8 1] from rfl) (Reps.none _ _))); intro v841 w11 ho12 hb hg_ hnew_; clear hg_ hnew_; (first | rw [← Ny840.out] at ho12 | (simp only [Int.reduceToNat] at ho12; rw [← Ny840.out] at ho12)); have n0_ := Aside0.mk (Kd.N_elder' (by (with_reducible repeat (first | apply Kd.N_alloc | apply Kd.N_drewN | apply Kd.N_drew)); exact HO_5.out) (Kd.R_base ho12) hb); have n1_ := Aside0.mk (Kd.R_lower (Kd.R_newM (M := fun k_ => (w.heap.size ≤ k_)) ho12 (keep_size (w := w) (g := g) (row := none) (by repeat (first | (with_reducible first | exact HK.out | apply KeepBut.set_ | apply keep_drewN | apply keep_drew | apply keep_alloc | refine keep_far ?_ GW835.out _) | exact HK.out))) (fun k_ h_ => h_)) (keep_size (w := w) (g := g) (row := none) (by repeat (first | (with_reducible first | exact HK.out | apply KeepBut.set_ | apply keep_drewN | apply keep_drew | apply keep_alloc | refine keep_far ?_ GW835.out _) | exact HK.out)))); have n2_ := Aside0.mk (blk_below (g := gb835) (o := .cells #[.int .i64 0, .int .i64 0, .slice none 0 0] 25 (0, 0)) (by (with_reducible repeat (first | refine blk_drewN ?_ _ | refine blk_drew ?_ | refine blk_alloc ?_ _)); exact BK835.out) hb); have n3_ := Aside0.mk (IsS99.below (by repeat (first | (with_reducible first | exact HI0.out | apply IsS99.alloc | apply IsS99.drewN | apply IsS99.drew | apply IsS99.set_1 | refine IsS99.far ?_ NB0_835.out _) | exact HI0.out)) hb); have n4_ := Aside0.mk (KeepBut.trans (by repeat (first | (with_reducible first | exact HK.out | apply KeepBut.set_ | apply keep_drewN | apply keep_drew | apply keep_alloc | refine keep_far ?_ GW835.out _) | exact HK.out)) (KeepBut.of_below hb g none) (.inl rfl)); have n5_ := Aside0.mk (below_step (by repeat (first | (with_reducible first | exact HB.out | apply below_alloc | apply pw_below_drewN | apply below_drew1 | refine below_set ?_ (IsS99.ge HI0.out) | refine below_set ?_ GE835.out) | exact HB.out)) hb); clear HO_5; clear BK835; clear HI0; clear HK; clear HB; have HO_5 := n0_; have HO842 := n1_; have BK835 := n2_; have HI0 := n3_; have HK := n4_; have HB := n5_; clear n0_ n1_ n2_ n3_ n4_ n5_; clear hb ho12; obtain ⟨Ao13, co13, eo13⟩ := Kd.R_slice HO842.out; subst eo13) | ((with_reducible refine gate_dst (N := 21) rfl ?_); (try (refine gate_guard (by rfl) ?_; dsimp only)); refine Kd.N_lit (Kd.slice 5 (Kd.int .u8)) _ 22 ?hg (N' := 21) ?hd (xs := ([y840] : List (List Int))) (inner := [.slice Ao13 y840.length co13]) (ok := (fun k_ => (w.heap.size ≤ k_) ∧ some k_ ≠ (v837 : Value).ownBlock ∧ k_ ≠ gb835 ∧ k_ ≠ g)) (okp := (fun k_ => (w.heap.size ≤ k_) ∧ some k_ ≠ (v837 : Value).ownBlock ∧ k_ ≠ gb835 ∧ k_ ≠ g)) ?hr ?hp (fun _ hk => hk) ((show ∀ k_, w11.heap.size ≤ k_ → (fun k_ => (w.heap.size ≤ k_) ∧ some k_ ≠ (v837 : Value).ownBlock ∧ k_ ≠ gb835 ∧ k_ ≠ g) k_ from fun k_ hk => ⟨(Nat.le_trans (keep_size (w := w) (g := g) (row := none) (by repeat (first | (with_reducible first | exact HK.out | apply KeepBut.set_ | apply keep_drewN | apply keep_drew | apply keep_alloc | refine keep_far ?_ GW835.out _) | exact HK.out))) hk), Kd.fresh' (Kd.N_lt (by (with_reducible repeat (first | apply Kd.N_alloc | apply Kd.N_drewN | apply Kd.N_drew)); exact HO_5.out)) k_ hk, Kd.freshB (g := gb835) (o := .cells #[.int .i64 0, .int .i64 0, .slice none 0 0] 25 (0, 0)) (by (with_reducible repeat (first | refine blk_drewN ?_ _ | refine blk_drew ?_ | refine blk_alloc ?_ _)); exact BK835.out) k_ hk, IsS99.fresh (by repeat (first | (with_reducible first | exact HI0.out | apply IsS99.alloc | apply IsS99.drewN | apply IsS99.drew | apply IsS99.set_1 | refine IsS99.far ?_ NB0_835.out _) | exact HI0.out)) k_ hk⟩) _ (Nat.le_refl _)) (Below.refl _ _) (Nat.le_refl _) (by simp) ?_; (case hd => rfl); (case hg => rfl); (case hr => first | (go_simp; done) | (go_simp; rfl)); (case hp => exact (Reps.one (show Kd.FK (Kd.slice 5 (Kd.int .u8)) _ _ y840 [.slice Ao13 y840.length co13] from (Kd.FK_slice_mk (Kd.R_reads' (Kd.R_mono (ok' := (fun k_ => (w.heap.size ≤ k_) ∧ some k_ ≠ (v837 : Value).ownBlock ∧ k_ ≠ gb835 ∧ k_ ≠ g)) (IsS99.apart HI0.out (Kd.R_types (Kd.R_apart' (HO842.out) (Kd.N_typed HO_5.out) (by decide)) BK835.out (by decide)) (by decide)) (fun k_ hk => ⟨hk.1.1.1.1, ⟨hk.1.1.2, ⟨hk.1.2, hk.2⟩⟩⟩))).2.1 (Kd.R_F (Kd.R_mono (ok' := (fun k_ => (w.heap.size ≤ k_) ∧ some k_ ≠ (v837 : Value).ownBlock ∧ k_ ≠ gb835 ∧ k_ ≠ g)) (IsS99.apart HI0.out (Kd.R_types (Kd.R_apart' (HO842.out) (Kd.N_typed HO_5.out) (by decide)) BK835.out (by decide)) (by decide)) (fun k_ hk => ⟨hk.1.1.1.1, ⟨hk.1.1.2, ⟨hk.1.2, hk.2⟩⟩⟩))))) (Reps.none _ _))); intro v844 w14 ho15 hb hg_ hnew_; clear hg_ hnew_; (first | rw [← Ny843.out] at ho15 | (simp only [Int.reduceToNat] at ho15; rw [← Ny843.out] at ho15)); have n0_ := Aside0.mk (Kd.N_elder' (by (with_reducible repeat (first | apply Kd.N_alloc | apply Kd.N_drewN | apply Kd.N_drew)); exact HO_5.out) (Kd.N_base ho15) hb); have n1_ := Aside0.mk (Kd.N_lower ho15 (keep_size (w := w) (g := g) (row := none) (by repeat (first | (with_reducible first | exact HK.out | apply KeepBut.set_ | apply keep_drewN | apply keep_drew | apply keep_alloc | refine keep_far ?_ GW835.out _) | exact HK.out)))); have n2_ := Aside0.mk (blk_below (g := gb835) (o := .cells #[.int .i64 0, .int .i64 0, .slice none 0 0] 25 (0, 0)) (by (with_reducible repeat (first | refine blk_drewN ?_ _ | refine blk_drew ?_ | refine blk_alloc ?_ _)); exact BK835.out) hb); have n3_ := Aside0.mk (IsS99.below (by repeat (first | (with_reducible first | exact HI0.out | apply IsS99.alloc | apply IsS99.drewN | apply IsS99.drew | apply IsS99.set_1 | refine IsS99.far ?_ NB0_835.out _) | exact HI0.out)) hb); have n4_ := Aside0.mk (KeepBut.trans (by repeat (first | (with_reducible first | exact HK.out | apply KeepBut.set_ | apply keep_drewN | apply keep_drew | apply keep_alloc | refine keep_far ?_ GW835.out _) | exact HK.out)) (KeepBut.of_below hb g none) (.inl rfl)); have n5_ := Aside0.mk (below_step (by repeat (first | (with_reducible first | exact HB.out | apply below_alloc | apply pw_below_drewN | apply below_drew1 | refine below_set ?_ (IsS99.ge HI0.out) | refine below_set ?_ GE835.out) | exact HB.out)) hb); clear HO_5; clear BK835; clear HI0; clear HK; clear HB; clear HO842; have HO_5 := n0_; have HO845 := n1_; have BK835 := n2_; have HI0 := n3_; have HK := n4_; have HB := n5_; clear n0_ n1_ n2_ n3_ n4_ n5_; clear hb ho15))
          go_meet
          case rel => exact ⟨_, (y843), H', ⟨by have := HJ2.out; first | omega | exact Nat.le_refl _⟩, ⟨by (with_reducible repeat (first | apply Kd.N_alloc | apply Kd.N_drewN | apply Kd.N_drew)); exact Kd.N_mono HO845.out (fun _ hk => ⟨hk.1, ⟨hk.2.2.1, hk.2.2.2⟩⟩)⟩, ⟨by (with_reducible repeat (first | refine blk_drewN ?_ _ | refine blk_drew ?_ | refine blk_alloc ?_ _)); exact BK835.out⟩, ⟨by repeat (first | (with_reducible first | exact HI0.out | apply IsS99.alloc | apply IsS99.drewN | apply IsS99.drew | apply IsS99.set_1 | refine IsS99.far ?_ NB0_835.out _) | exact HI0.out)⟩, ⟨by repeat (first | (with_reducible first | exact HK.out | apply KeepBut.set_ | apply keep_drewN | apply keep_drew | apply keep_alloc | refine keep_far ?_ GW835.out _) | exact HK.out)⟩, ⟨by repeat (first | (with_reducible first | exact HB.out | apply below_alloc | apply pw_below_drewN | apply below_drew1 | refine below_set ?_ (IsS99.ge HI0.out) | refine below_set ?_ GE835.out) | exact HB.out)⟩⟩
        · replace c10 := Bool.eq_false_iff.mpr c10
          subst c10
          have H1 : (spec_l3Draw.j1 kj2 t836 s0_0 t839) = some (r1, r2, r3, r4, r5, r6) := by rw [if_neg (show ¬ (false = true) by decide)] at H; exact H
          clear H
          have H := H1
          clear H1
          have H' := Aside0.mk H
          clear H
          go_wp2
          go_meet
          case rel => exact ⟨_, (t836), H', ⟨by have := HJ2.out; first | omega | exact Nat.le_refl _⟩, ⟨by (with_reducible repeat (first | apply Kd.N_alloc | apply Kd.N_drewN | apply Kd.N_drew)); exact HO_5.out⟩, ⟨by (with_reducible repeat (first | refine blk_drewN ?_ _ | refine blk_drew ?_ | refine blk_alloc ?_ _)); exact BK835.out⟩, ⟨by repeat (first | (with_reducible first | exact HI0.out | apply IsS99.alloc | apply IsS99.drewN | apply IsS99.drew | apply IsS99.set_1 | refine IsS99.far ?_ NB0_835.out _) | exact HI0.out)⟩, ⟨by repeat (first | (with_reducible first | exact HK.out | apply KeepBut.set_ | apply keep_drewN | apply keep_drew | apply keep_alloc | refine keep_far ?_ GW835.out _) | exact HK.out)⟩, ⟨by repeat (first | (with_reducible first | exact HB.out | apply below_alloc | apply pw_below_drewN | apply below_drew1 | refine below_set ?_ (IsS99.ge HI0.out) | refine below_set ?_ GE835.out) | exact HB.out)⟩⟩
      case rest =>
        clear HC9
        try clear c1
        try clear p2
        try clear c5
        try clear c6
        try clear c6b0
        try clear c6b1
        try clear c6b2
        try clear c8
        try clear c10
        try clear p2
        obtain ⟨kq, x5_8, HA, HJ8, HO_5, BK835, HI0, HK, HB⟩ := hcut
        cases kq with
        | zero => exact absurd HA.out (by simp [spec_l3Draw.j1])
        | succ kj8 =>
          have H := HA.out
          clear HA
          simp only [spec_l3Draw.j1] at H
          replace H := Option.bind_eq_some_iff.mp H
          obtain ⟨⟨t846, t847⟩, A160, H⟩ := H
          replace H : ((spec_l3Prove.f kj8 x5_8 t846).bind fun bt848 => ((spec_l3Root.f kj8 x5_8).bind fun t854 => ((some (([] : List Int) : List Int)).bind fun y857 => (if 0 ≤ t846 then (if t846 < (x5_8.length : Int) then (if y857.length + (rd_L1 x5_8 t846).length < 140737488355328 then ((some (y857 ++ (rd_L1 x5_8 t846) : List Int)).bind fun y861 => ((spec_l1Next.f s0_0 t847 10).bind fun bt864 => (if bt864.1 = 0 then (if y861.length < 140737488355328 then (some (t854, (y861 ++ [0]), bt848.1, bt848.2.1, bt848.2.2, bt864.2)) else (none)) else (if bt864.1 = 1 then ((spec_l1Pick.f s0_0 bt864.2 (([0, (-1), bt848.2.1, wrap64 (bt848.2.1 - 1), 4611686018427387904] : List Int))).bind fun bt872 => (some (t854, y861, bt872.1, bt848.2.1, bt848.2.2, bt872.2))) else (if bt864.1 = 2 then ((spec_l1Pick.f s0_0 bt864.2 (([wrap64 (bt848.2.1 + 1), 0, 17, wrap64 (bt848.2.1 - 1)] : List Int))).bind fun bt877 => (some (t854, y861, bt848.1, bt877.1, bt848.2.2, bt877.2))) else (if bt864.1 = 3 then ((spec_l1Some.f kj8 s0_0 bt864.2 32).bind fun bt879 => (if bt848.2.2.length < 5864062014805 then (some (t854, y861, bt848.1, bt848.2.1, (bt848.2.2 ++ [bt879.1]), bt879.2)) else (none))) else (if bt864.1 = 4 then (if (bt848.2.2.length : Int) > 0 then ((spec_l1Next.f s0_0 bt864.2 2).bind fun bt886 => ((spec_l1Some.f kj8 s0_0 bt886.2 (wrap64 (32 - bt886.1))).bind fun bt888 => (if 0 < (bt848.2.2.length : Int) then (some (t854, y861, bt848.1, bt848.2.1, (bt848.2.2.set (0 : Int).toNat bt888.1), bt888.2)) else (none)))) else (some (t854, y861, bt848.1, bt848.2.1, bt848.2.2, bt864.2))) else (if bt864.1 = 5 then ((spec_l1Some.f kj8 s0_0 bt864.2 32).bind fun bt893 => (some (bt893.1, y861, bt848.1, bt848.2.1, bt848.2.2, bt893.2))) else (some (t854, y861, bt848.1, bt848.2.1, bt848.2.2, bt864.2)))))))))) else (none)) else (none)) else (none))))) = some (r1, r2, r3, r4, r5, r6) := H
          have A16 := Aside0.mk A160
          clear A160
          replace H := Option.bind_eq_some_iff.mp H
          obtain ⟨⟨t848, t849, t850⟩, A170, H⟩ := H
          replace H : ((spec_l3Root.f kj8 x5_8).bind fun t854 => ((some (([] : List Int) : List Int)).bind fun y857 => (if 0 ≤ t846 then (if t846 < (x5_8.length : Int) then (if y857.length + (rd_L1 x5_8 t846).length < 140737488355328 then ((some (y857 ++ (rd_L1 x5_8 t846) : List Int)).bind fun y861 => ((spec_l1Next.f s0_0 t847 10).bind fun bt864 => (if bt864.1 = 0 then (if y861.length < 140737488355328 then (some (t854, (y861 ++ [0]), t848, t849, t850, bt864.2)) else (none)) else (if bt864.1 = 1 then ((spec_l1Pick.f s0_0 bt864.2 (([0, (-1), t849, wrap64 (t849 - 1), 4611686018427387904] : List Int))).bind fun bt872 => (some (t854, y861, bt872.1, t849, t850, bt872.2))) else (if bt864.1 = 2 then ((spec_l1Pick.f s0_0 bt864.2 (([wrap64 (t849 + 1), 0, 17, wrap64 (t849 - 1)] : List Int))).bind fun bt877 => (some (t854, y861, t848, bt877.1, t850, bt877.2))) else (if bt864.1 = 3 then ((spec_l1Some.f kj8 s0_0 bt864.2 32).bind fun bt879 => (if t850.length < 5864062014805 then (some (t854, y861, t848, t849, (t850 ++ [bt879.1]), bt879.2)) else (none))) else (if bt864.1 = 4 then (if (t850.length : Int) > 0 then ((spec_l1Next.f s0_0 bt864.2 2).bind fun bt886 => ((spec_l1Some.f kj8 s0_0 bt886.2 (wrap64 (32 - bt886.1))).bind fun bt888 => (if 0 < (t850.length : Int) then (some (t854, y861, t848, t849, (t850.set (0 : Int).toNat bt888.1), bt888.2)) else (none)))) else (some (t854, y861, t848, t849, t850, bt864.2))) else (if bt864.1 = 5 then ((spec_l1Some.f kj8 s0_0 bt864.2 32).bind fun bt893 => (some (bt893.1, y861, t848, t849, t850, bt893.2))) else (some (t854, y861, t848, t849, t850, bt864.2)))))))))) else (none)) else (none)) else (none)))) = some (r1, r2, r3, r4, r5, r6) := H
          have A17 := Aside0.mk A170
          clear A170
          replace H := Option.bind_eq_some_iff.mp H
          obtain ⟨t854, A180, H⟩ := H
          replace H : ((some (([] : List Int) : List Int)).bind fun y857 => (if 0 ≤ t846 then (if t846 < (x5_8.length : Int) then (if y857.length + (rd_L1 x5_8 t846).length < 140737488355328 then ((some (y857 ++ (rd_L1 x5_8 t846) : List Int)).bind fun y861 => ((spec_l1Next.f s0_0 t847 10).bind fun bt864 => (if bt864.1 = 0 then (if y861.length < 140737488355328 then (some (t854, (y861 ++ [0]), t848, t849, t850, bt864.2)) else (none)) else (if bt864.1 = 1 then ((spec_l1Pick.f s0_0 bt864.2 (([0, (-1), t849, wrap64 (t849 - 1), 4611686018427387904] : List Int))).bind fun bt872 => (some (t854, y861, bt872.1, t849, t850, bt872.2))) else (if bt864.1 = 2 then ((spec_l1Pick.f s0_0 bt864.2 (([wrap64 (t849 + 1), 0, 17, wrap64 (t849 - 1)] : List Int))).bind fun bt877 => (some (t854, y861, t848, bt877.1, t850, bt877.2))) else (if bt864.1 = 3 then ((spec_l1Some.f kj8 s0_0 bt864.2 32).bind fun bt879 => (if t850.length < 5864062014805 then (some (t854, y861, t848, t849, (t850 ++ [bt879.1]), bt879.2)) else (none))) else (if bt864.1 = 4 then (if (t850.length : Int) > 0 then ((spec_l1Next.f s0_0 bt864.2 2).bind fun bt886 => ((spec_l1Some.f kj8 s0_0 bt886.2 (wrap64 (32 - bt886.1))).bind fun bt888 => (if 0 < (t850.length : Int) then (some (t854, y861, t848, t849, (t850.set (0 : Int).toNat bt888.1), bt888.2)) else (none)))) else (some (t854, y861, t848, t849, t850, bt864.2))) else (if bt864.1 = 5 then ((spec_l1Some.f kj8 s0_0 bt864.2 32).bind fun bt893 => (some (bt893.1, y861, t848, t849, t850, bt893.2))) else (some (t854, y861, t848, t849, t850, bt864.2)))))))))) else (none)) else (none)) else (none))) = some (r1, r2, r3, r4, r5, r6) := H
          have A18 := Aside0.mk A180
          clear A180
          obtain ⟨y857, hy857⟩ : ∃ y_ : List Int, y_ = (([] : List Int)) := ⟨_, rfl⟩
          replace H : (if 0 ≤ t846 then (if t846 < (x5_8.length : Int) then (if y857.length + (rd_L1 x5_8 t846).length < 140737488355328 then ((some (y857 ++ (rd_L1 x5_8 t846) : List Int)).bind fun y861 => ((spec_l1Next.f s0_0 t847 10).bind fun bt864 => (if bt864.1 = 0 then (if y861.length < 140737488355328 then (some (t854, (y861 ++ [0]), t848, t849, t850, bt864.2)) else (none)) else (if bt864.1 = 1 then ((spec_l1Pick.f s0_0 bt864.2 (([0, (-1), t849, wrap64 (t849 - 1), 4611686018427387904] : List Int))).bind fun bt872 => (some (t854, y861, bt872.1, t849, t850, bt872.2))) else (if bt864.1 = 2 then ((spec_l1Pick.f s0_0 bt864.2 (([wrap64 (t849 + 1), 0, 17, wrap64 (t849 - 1)] : List Int))).bind fun bt877 => (some (t854, y861, t848, bt877.1, t850, bt877.2))) else (if bt864.1 = 3 then ((spec_l1Some.f kj8 s0_0 bt864.2 32).bind fun bt879 => (if t850.length < 5864062014805 then (some (t854, y861, t848, t849, (t850 ++ [bt879.1]), bt879.2)) else (none))) else (if bt864.1 = 4 then (if (t850.length : Int) > 0 then ((spec_l1Next.f s0_0 bt864.2 2).bind fun bt886 => ((spec_l1Some.f kj8 s0_0 bt886.2 (wrap64 (32 - bt886.1))).bind fun bt888 => (if 0 < (t850.length : Int) then (some (t854, y861, t848, t849, (t850.set (0 : Int).toNat bt888.1), bt888.2)) else (none)))) else (some (t854, y861, t848, t849, t850, bt864.2))) else (if bt864.1 = 5 then ((spec_l1Some.f kj8 s0_0 bt864.2 32).bind fun bt893 => (some (bt893.1, y861, t848, t849, t850, bt893.2))) else (some (t854, y861, t848, t849, t850, bt864.2)))))))))) else (none)) else (none)) else (none)) = some (r1, r2, r3, r4, r5, r6) := by first | (rw [hy857]; with_reducible exact H) | (have H2_ := (Option.bind_some _ _).symm.trans H; rw [hy857]; with_reducible exact H2_) | (have H2_ := (Option.bind_some _ _).symm.trans H; with_reducible exact H2_) | with_reducible exact H | (rw [hy857]; exact H) | exact H
          have Ny857 := Aside0.mk hy857
          clear hy857
          by_cases c19 : 0 ≤ t846
          · rw [if_pos c19] at H
            have c19b0 : decide (0 ≤ t846) = true := decide_eq_true c19
            clear c19
            by_cases c20 : t846 < (x5_8.length : Int)
            · rw [if_pos c20] at H
              have c20b0 : decide (t846 < (x5_8.length : Int)) = true := decide_eq_true c20
              clear c20
              by_cases c21 : y857.length + (rd_L1 x5_8 t846).length < 140737488355328
              · rw [if_pos c21] at H
                have LMc21 := Aside0.mk c21
                clear c21
                obtain ⟨y861, hy861⟩ : ∃ y_ : List Int, y_ = (y857 ++ (rd_L1 x5_8 t846)) := ⟨_, rfl⟩
                replace H : ((spec_l1Next.f s0_0 t847 10).bind fun bt864 => (if bt864.1 = 0 then (if y861.length < 140737488355328 then (some (t854, (y861 ++ [0]), t848, t849, t850, bt864.2)) else (none)) else (if bt864.1 = 1 then ((spec_l1Pick.f s0_0 bt864.2 (([0, (-1), t849, wrap64 (t849 - 1), 4611686018427387904] : List Int))).bind fun bt872 => (some (t854, y861, bt872.1, t849, t850, bt872.2))) else (if bt864.1 = 2 then ((spec_l1Pick.f s0_0 bt864.2 (([wrap64 (t849 + 1), 0, 17, wrap64 (t849 - 1)] : List Int))).bind fun bt877 => (some (t854, y861, t848, bt877.1, t850, bt877.2))) else (if bt864.1 = 3 then ((spec_l1Some.f kj8 s0_0 bt864.2 32).bind fun bt879 => (if t850.length < 5864062014805 then (some (t854, y861, t848, t849, (t850 ++ [bt879.1]), bt879.2)) else (none))) else (if bt864.1 = 4 then (if (t850.length : Int) > 0 then ((spec_l1Next.f s0_0 bt864.2 2).bind fun bt886 => ((spec_l1Some.f kj8 s0_0 bt886.2 (wrap64 (32 - bt886.1))).bind fun bt888 => (if 0 < (t850.length : Int) then (some (t854, y861, t848, t849, (t850.set (0 : Int).toNat bt888.1), bt888.2)) else (none)))) else (some (t854, y861, t848, t849, t850, bt864.2))) else (if bt864.1 = 5 then ((spec_l1Some.f kj8 s0_0 bt864.2 32).bind fun bt893 => (some (bt893.1, y861, t848, t849, t850, bt893.2))) else (some (t854, y861, t848, t849, t850, bt864.2))))))))) = some (r1, r2, r3, r4, r5, r6) := by first | (rw [hy861]; with_reducible exact H) | (have H2_ := (Option.bind_some _ _).symm.trans H; rw [hy861]; with_reducible exact H2_) | (have H2_ := (Option.bind_some _ _).symm.trans H; with_reducible exact H2_) | with_reducible exact H | (rw [hy861]; exact H) | exact H
                have Ny861 := Aside0.mk hy861
                clear hy861
                replace H := Option.bind_eq_some_iff.mp H
                obtain ⟨⟨t864, t865⟩, A220, H⟩ := H
                replace H : (if t864 = 0 then (if y861.length < 140737488355328 then (some (t854, (y861 ++ [0]), t848, t849, t850, t865)) else (none)) else (if t864 = 1 then ((spec_l1Pick.f s0_0 t865 (([0, (-1), t849, wrap64 (t849 - 1), 4611686018427387904] : List Int))).bind fun bt872 => (some (t854, y861, bt872.1, t849, t850, bt872.2))) else (if t864 = 2 then ((spec_l1Pick.f s0_0 t865 (([wrap64 (t849 + 1), 0, 17, wrap64 (t849 - 1)] : List Int))).bind fun bt877 => (some (t854, y861, t848, bt877.1, t850, bt877.2))) else (if t864 = 3 then ((spec_l1Some.f kj8 s0_0 t865 32).bind fun bt879 => (if t850.length < 5864062014805 then (some (t854, y861, t848, t849, (t850 ++ [bt879.1]), bt879.2)) else (none))) else (if t864 = 4 then (if (t850.length : Int) > 0 then ((spec_l1Next.f s0_0 t865 2).bind fun bt886 => ((spec_l1Some.f kj8 s0_0 bt886.2 (wrap64 (32 - bt886.1))).bind fun bt888 => (if 0 < (t850.length : Int) then (some (t854, y861, t848, t849, (t850.set (0 : Int).toNat bt888.1), bt888.2)) else (none)))) else (some (t854, y861, t848, t849, t850, t865))) else (if t864 = 5 then ((spec_l1Some.f kj8 s0_0 t865 32).bind fun bt893 => (some (bt893.1, y861, t848, t849, t850, bt893.2))) else (some (t854, y861, t848, t849, t850, t865)))))))) = some (r1, r2, r3, r4, r5, r6) := H
                have A22 := Aside0.mk A220
                clear A220
                obtain ⟨Ao25, co25, eo25⟩ := Kd.N_slice HO_5.out
                subst eo25
                go_wp2_with (first | ((with_reducible refine gate_callee (f := 58) rfl ?_); refine goesL_ (some 25) rfl rfl Try.func58 (by kernel_rfl) rfl #[.pointer (some ⟨g, 0, none⟩), .int .i64 (x5_8.length : Int)] rfl (by (try simp only [List.map_toArray, List.map_cons, List.map_nil]); first | done | rfl | (simp only [List.length_drop, List.length_take]; rfl)) ?_; (with_reducible refine (spec_l1Next.calls g s0_0 t839 (x5_8.length : Int) t846 t847 w0 _ ?side1 ?side2 A16.out).mono ?_); (case side1 => repeat (first | (with_reducible first | exact HI0.out | apply IsS99.alloc | apply IsS99.drewN | apply IsS99.drew | apply IsS99.set_1 | refine IsS99.far ?_ NB0_835.out _) | exact HI0.out)); (case side2 => repeat (first | (with_reducible first | exact HB.out | apply below_alloc | apply pw_below_drewN | apply below_drew1 | refine below_set ?_ (IsS99.ge HI0.out) | refine below_set ?_ GE835.out) | exact HB.out)); rintro e w26 ⟨rfl, hi, hb, hk⟩; refine ⟨_, rfl, ?_⟩; have n0_ := Aside0.mk (Kd.N_mono (Kd.N_keep (Kd.N_mono (ok := fun k_ => (((w.heap.size ≤ k_)) ∧ (k_ ≠ gb835 ∧ k_ ≠ g))) (by (with_reducible repeat (first | apply Kd.N_alloc | apply Kd.N_drewN | apply Kd.N_drew)); exact HO_5.out) (fun k_ hk_ => (⟨hk_, hk_.2.2⟩ : _ ∧ k_ ≠ g))) hk (fun _ h => h.2)) (fun _ h => h.1)); have n1_ := Aside0.mk (KeepBut.blk hk (g' := gb835) (o := .cells #[.int .i64 0, .int .i64 0, .slice none 0 0] 25 (0, 0)) (by (with_reducible repeat (first | refine blk_drewN ?_ _ | refine blk_drew ?_ | refine blk_alloc ?_ _)); exact BK835.out) NB835_0.out (by simp)); have n2_ := Aside0.mk (KeepBut.trans (by repeat (first | (with_reducible first | exact HK.out | apply KeepBut.set_ | apply keep_drewN | apply keep_drew | apply keep_alloc | refine keep_far ?_ GW835.out _) | exact HK.out)) hk (.inl rfl)); have n3_ := Aside0.mk (hb); have n4_ := Aside0.mk (hi); clear HO_5; clear BK835; clear HK; clear HB; clear HI0; have HO_5 := n0_; have BK835 := n1_; have HK := n2_; have HB := n3_; have HI0 := n4_; clear n0_ n1_ n2_ n3_ n4_; (try clear hb); (try clear hb2); (try clear hk); (try clear hi)) | ((with_reducible refine gate_callee (f := 62) rfl ?_); refine goesL_ (some 28) rfl rfl Try.func62 (by kernel_rfl) rfl #[.slice Ao25 x5_8.length co25, .int .i64 t846] rfl (by (try simp only [List.map_toArray, List.map_cons, List.map_nil]); first | done | rfl | (simp only [List.length_drop, List.length_take]; rfl)) ?_; (with_reducible refine (spec_l3Prove.calls kj8 _ _ x5_8 t846 t848 t849 t850 _ ?side1 ?side2 A17.out).mono ?_); (case side1 => repeat (first | exact (Kd.N_reads' HO_5.out).2.2 | (with_reducible refine Kd.C_alloc ?_ _) | (with_reducible refine Kd.C_drewN ?_ _) | (with_reducible refine Kd.C_drew ?_))); (case side2 => exact (Kd.N_reads' HO_5.out).2.1); rintro e w27 ⟨v851, rfl, ho0, hb⟩; refine ⟨_, rfl, ?_⟩; have n0_ := Aside0.mk (Kd.N_elder' (by (with_reducible repeat (first | apply Kd.N_alloc | apply Kd.N_drewN | apply Kd.N_drew)); exact HO_5.out) (Kd.N_base (Kd.S_N ho0)) hb); have n1_ := Aside0.mk (Kd.N_lower (Kd.N_mono (ok' := fun k_ => (w.heap.size ≤ k_) ∧ some k_ ≠ (.slice Ao25 x5_8.length co25 : Value).ownBlock ∧ k_ ≠ gb835 ∧ k_ ≠ g) (Kd.S_N (Kd.S_bound ho0)) (fun k_ hk_ => ⟨(Nat.le_trans (keep_size (w := w) (g := g) (row := none) (by repeat (first | (with_reducible first | exact HK.out | apply KeepBut.set_ | apply keep_drewN | apply keep_drew | apply keep_alloc | refine keep_far ?_ GW835.out _) | exact HK.out))) hk_.2.1), (Kd.fresh' (Kd.N_lt (by (with_reducible repeat (first | apply Kd.N_alloc | apply Kd.N_drewN | apply Kd.N_drew)); exact HO_5.out)) k_ hk_.2.1), (Kd.freshB (g := gb835) (o := .cells #[.int .i64 0, .int .i64 0, .slice none 0 0] 25 (0, 0)) (by (with_reducible repeat (first | refine blk_drewN ?_ _ | refine blk_drew ?_ | refine blk_alloc ?_ _)); exact BK835.out) k_ hk_.2.1), (IsS99.fresh (by repeat (first | (with_reducible first | exact HI0.out | apply IsS99.alloc | apply IsS99.drewN | apply IsS99.drew | apply IsS99.set_1 | refine IsS99.far ?_ NB0_835.out _) | exact HI0.out)) k_ hk_.2.1)⟩)) (keep_size (w := w) (g := g) (row := none) (by repeat (first | (with_reducible first | exact HK.out | apply KeepBut.set_ | apply keep_drewN | apply keep_drew | apply keep_alloc | refine keep_far ?_ GW835.out _) | exact HK.out)))); have n2_ := Aside0.mk (blk_below (g := gb835) (o := .cells #[.int .i64 0, .int .i64 0, .slice none 0 0] 25 (0, 0)) (by (with_reducible repeat (first | refine blk_drewN ?_ _ | refine blk_drew ?_ | refine blk_alloc ?_ _)); exact BK835.out) hb); have n3_ := Aside0.mk (IsS99.below (by repeat (first | (with_reducible first | exact HI0.out | apply IsS99.alloc | apply IsS99.drewN | apply IsS99.drew | apply IsS99.set_1 | refine IsS99.far ?_ NB0_835.out _) | exact HI0.out)) hb); have n4_ := Aside0.mk (KeepBut.trans (by repeat (first | (with_reducible first | exact HK.out | apply KeepBut.set_ | apply keep_drewN | apply keep_drew | apply keep_alloc | refine keep_far ?_ GW835.out _) | exact HK.out)) (KeepBut.of_below hb g none) (.inl rfl)); have n5_ := Aside0.mk (below_step (by repeat (first | (with_reducible first | exact HB.out | apply below_alloc | apply pw_below_drewN | apply below_drew1 | refine below_set ?_ (IsS99.ge HI0.out) | refine below_set ?_ GE835.out) | exact HB.out)) hb); clear HO_5; clear BK835; clear HI0; clear HK; clear HB; have HO_5 := n0_; have HO852 := n1_; have BK835 := n2_; have HI0 := n3_; have HK := n4_; have HB := n5_; clear n0_ n1_ n2_ n3_ n4_ n5_; (try clear hb); (try clear hb2); (try clear hk); (try clear hi); (try clear ho0)) | ((with_reducible refine gate_dst (N := 7) rfl ?_); (try (refine gate_guard (by rfl) ?_; dsimp only)); refine box_event ?hg (N := 7) ?hd (cs := #[.int .i64 0, .int .i64 0, .slice none 0 0]) (t := 25) ?hr ?_; (case hd => rfl); (case hg => rfl); (case hr => first | (go_simp; done) | (go_simp; rfl)); intro gb853 hg w28 hbox hb; have n0_ := Aside0.mk (Kd.N_below (Kd.N_elderB (by (with_reducible repeat (first | apply Kd.N_alloc | apply Kd.N_drewN | apply Kd.N_drew)); exact HO_5.out) gb853 (Nat.le_of_eq hg.symm)) hb); have n1_ := Aside0.mk (Kd.N_below (Kd.N_elderB (by (with_reducible repeat (first | apply Kd.N_alloc | apply Kd.N_drewN | apply Kd.N_drew)); exact HO852.out) gb853 (Nat.le_of_eq hg.symm)) hb); have n2_ := Aside0.mk (blk_below (g := gb835) (o := .cells #[.int .i64 0, .int .i64 0, .slice none 0 0] 25 (0, 0)) (by (with_reducible repeat (first | refine blk_drewN ?_ _ | refine blk_drew ?_ | refine blk_alloc ?_ _)); exact BK835.out) hb); have n3_ := Aside0.mk (IsS99.below (by repeat (first | (with_reducible first | exact HI0.out | apply IsS99.alloc | apply IsS99.drewN | apply IsS99.drew | apply IsS99.set_1 | refine IsS99.far ?_ NB0_835.out _) | exact HI0.out)) hb); have n4_ := Aside0.mk (KeepBut.trans (by repeat (first | (with_reducible first | exact HK.out | apply KeepBut.set_ | apply keep_drewN | apply keep_drew | apply keep_alloc | refine keep_far ?_ GW835.out _) | exact HK.out)) (KeepBut.of_below hb g none) (.inl rfl)); have n5_ := Aside0.mk (below_step (by repeat (first | (with_reducible first | exact HB.out | apply below_alloc | apply pw_below_drewN | apply below_drew1 | refine below_set ?_ (IsS99.ge HI0.out) | refine below_set ?_ GE835.out) | exact HB.out)) hb); have n6_ := Aside0.mk (hbox); have n7_ := Aside0.mk ((by rw [hg]; exact (keep_size (w := w) (g := g) (row := none) (by repeat (first | (with_reducible first | exact HK.out | apply KeepBut.set_ | apply keep_drewN | apply keep_drew | apply keep_alloc | refine keep_far ?_ GW835.out _) | exact HK.out))) : w.heap.size ≤ gb853)); have n8_ := Aside0.mk ((Nat.le_trans HW0.out (by rw [hg]; exact (keep_size (w := w) (g := g) (row := none) (by repeat (first | (with_reducible first | exact HK.out | apply KeepBut.set_ | apply keep_drewN | apply keep_drew | apply keep_alloc | refine keep_far ?_ GW835.out _) | exact HK.out))) : w.heap.size ≤ gb853) : w0.heap.size ≤ gb853)); have n9_ := Aside0.mk ((by rw [hg]; exact Nat.ne_of_lt (blk_lt (g := gb835) (o := .cells #[.int .i64 0, .int .i64 0, .slice none 0 0] 25 (0, 0)) (by (with_reducible repeat (first | refine blk_drewN ?_ _ | refine blk_drew ?_ | refine blk_alloc ?_ _)); exact BK835.out)) : gb835 ≠ gb853)); have n10_ := Aside0.mk ((by rw [hg]; exact Nat.ne_of_gt (blk_lt (g := gb835) (o := .cells #[.int .i64 0, .int .i64 0, .slice none 0 0] 25 (0, 0)) (by (with_reducible repeat (first | refine blk_drewN ?_ _ | refine blk_drew ?_ | refine blk_alloc ?_ _)); exact BK835.out)) : gb853 ≠ gb835)); have n11_ := Aside0.mk ((by rw [hg]; exact Nat.ne_of_lt (IsS99.lt (show IsS99 w0 _ g s0_0 t847 from by repeat (first | (with_reducible first | exact HI0.out | apply IsS99.alloc | apply IsS99.drewN | apply IsS99.drew | apply IsS99.set_1 | refine IsS99.far ?_ NB0_835.out _) | exact HI0.out))) : g ≠ gb853)); have n12_ := Aside0.mk ((by rw [hg]; exact Nat.ne_of_gt (IsS99.lt (show IsS99 w0 _ g s0_0 t847 from by repeat (first | (with_reducible first | exact HI0.out | apply IsS99.alloc | apply IsS99.drewN | apply IsS99.drew | apply IsS99.set_1 | refine IsS99.far ?_ NB0_835.out _) | exact HI0.out))) : gb853 ≠ g)); clear HO_5; clear HO852; clear BK835; clear HI0; clear HK; clear HB; have HO_5 := n0_; have HO852 := n1_; have BK835 := n2_; have HI0 := n3_; have HK := n4_; have HB := n5_; have BK853 := n6_; have GW853 := n7_; have GE853 := n8_; have NB835_853 := n9_; have NB853_835 := n10_; have NB0_853 := n11_; have NB853_0 := n12_; clear n0_ n1_ n2_ n3_ n4_ n5_ n6_ n7_ n8_ n9_ n10_ n11_ n12_; clear hb hbox hg; have hnb29 := NB853_835.out; have hnc29 := NB835_853.out; have hnb30 := NB853_0.out; have hnc30 := NB0_853.out; have hcz31_0 : w28.cell? ⟨gb853, 0, none⟩ = some (.int .i64 0) := (blk_cell BK853.out 0).trans (by first | rfl | (simp only [*] <;> rfl)); have hcz31_1 : w28.cell? ⟨gb853, 1, none⟩ = some (.int .i64 0) := (blk_cell BK853.out 1).trans (by first | rfl | (simp only [*] <;> rfl)); have hcz31_2 : w28.cell? ⟨gb853, 2, none⟩ = some (.slice none 0 0) := (blk_cell BK853.out 2).trans (by first | rfl | (simp only [*] <;> rfl)); have hfz31_0 := blk_frozen BK853.out 0; have hfz31_1 := blk_frozen BK853.out 1; have hfz31_2 := blk_frozen BK853.out 2; obtain ⟨Ao32, co32, eo32⟩ := Kd.N_slice HO852.out; subst eo32) | ((with_reducible refine gate_callee (f := 83) rfl ?_); refine goesL_ (some 30) rfl rfl Try.func83 (by kernel_rfl) rfl #[.slice Ao25 x5_8.length co25] rfl (by (try simp only [List.map_toArray, List.map_cons, List.map_nil]); first | done | rfl | (simp only [List.length_drop, List.length_take]; rfl)) ?_; (with_reducible refine (spec_l3Root.calls kj8 _ _ x5_8 t854 _ ?side1 ?side2 A18.out).mono ?_); (case side1 => refine (Kd.N_reads' (e := 22) (base := w.heap.size) (ok := fun k_ => ((((w.heap.size ≤ k_) ∧ (k_ ≠ gb835 ∧ k_ ≠ g)) ∧ some k_ ≠ (.slice Ao32 t850.length co32 : Value).ownBlock) ∧ k_ ≠ gb853)) (n := x5_8.length) (c := co25) ?_).2.2; exact (by (with_reducible repeat (first | apply Kd.N_alloc | apply Kd.N_drewN | apply Kd.N_drew)); exact (Kd.N_mono (Kd.N_far (p := ⟨gb853, 2, none⟩) (Kd.N_far (p := ⟨gb853, 1, none⟩) (Kd.N_far (p := ⟨gb853, 0, none⟩) (Kd.N_mono HO_5.out (fun k_ hk => (⟨hk, hk.2⟩ : _ ∧ k_ ≠ gb853))) (fun _ hk => hk.2) (.int .i64 t848)) (fun _ hk => hk.2) (.int .i64 t849)) (fun _ hk => hk.2) (.slice Ao32 t850.length co32)) (fun _ h_ => h_.1)))); (case side2 => exact (Kd.N_reads' HO_5.out).2.1); rintro e w33 ⟨v855, rfl, ho0, hb⟩; refine ⟨_, rfl, ?_⟩; have n0_ := Aside0.mk (Kd.N_elder' (by (with_reducible repeat (first | apply Kd.N_alloc | apply Kd.N_drewN | apply Kd.N_drew)); exact (Kd.N_mono (Kd.N_far (p := ⟨gb853, 2, none⟩) (Kd.N_far (p := ⟨gb853, 1, none⟩) (Kd.N_far (p := ⟨gb853, 0, none⟩) (Kd.N_mono HO_5.out (fun k_ hk => (⟨hk, hk.2⟩ : _ ∧ k_ ≠ gb853))) (fun _ hk => hk.2) (.int .i64 t848)) (fun _ hk => hk.2) (.int .i64 t849)) (fun _ hk => hk.2) (.slice Ao32 t850.length co32)) (fun _ h_ => h_.1))) (Kd.R_base ho0) hb); have n1_ := Aside0.mk (Kd.N_elder' (by (with_reducible repeat (first | apply Kd.N_alloc | apply Kd.N_drewN | apply Kd.N_drew)); exact (Kd.N_mono (Kd.N_far (p := ⟨gb853, 2, none⟩) (Kd.N_far (p := ⟨gb853, 1, none⟩) (Kd.N_far (p := ⟨gb853, 0, none⟩) (Kd.N_mono HO852.out (fun k_ hk => (⟨hk, hk.2⟩ : _ ∧ k_ ≠ gb853))) (fun _ hk => hk.2) (.int .i64 t848)) (fun _ hk => hk.2) (.int .i64 t849)) (fun _ hk => hk.2) (.slice Ao32 t850.length co32)) (fun _ h_ => h_.1))) (Kd.R_base ho0) hb); have n2_ := Aside0.mk (Kd.R_lower (Kd.R_newM (M := fun k_ => (w.heap.size ≤ k_)) ho0 (keep_size (w := w) (g := g) (row := none) (by repeat (first | (with_reducible first | exact HK.out | apply KeepBut.set_ | apply keep_drewN | apply keep_drew | apply keep_alloc | refine keep_far ?_ GW835.out _ | refine keep_far ?_ GW853.out _) | exact HK.out))) (fun k_ h_ => h_)) (keep_size (w := w) (g := g) (row := none) (by repeat (first | (with_reducible first | exact HK.out | apply KeepBut.set_ | apply keep_drewN | apply keep_drew | apply keep_alloc | refine keep_far ?_ GW835.out _ | refine keep_far ?_ GW853.out _) | exact HK.out)))); have n3_ := Aside0.mk (blk_below (g := gb835) (o := .cells #[.int .i64 0, .int .i64 0, .slice none 0 0] 25 (0, 0)) (by (with_reducible repeat (first | refine blk_drewN ?_ _ | refine blk_drew ?_ | refine blk_alloc ?_ _)); refine blk_far ?_ NB835_853.out _; (with_reducible repeat (first | refine blk_drewN ?_ _ | refine blk_drew ?_ | refine blk_alloc ?_ _)); refine blk_far ?_ NB835_853.out _; (with_reducible repeat (first | refine blk_drewN ?_ _ | refine blk_drew ?_ | refine blk_alloc ?_ _)); refine blk_far ?_ NB835_853.out _; (with_reducible repeat (first | refine blk_drewN ?_ _ | refine blk_drew ?_ | refine blk_alloc ?_ _)); exact BK835.out) hb); have n4_ := Aside0.mk (IsS99.below (show IsS99 w0 (((w28.setCell ⟨gb853, 0, none⟩ (.int .i64 t848)).setCell ⟨gb853, 1, none⟩ (.int .i64 t849)).setCell ⟨gb853, 2, none⟩ (.slice Ao32 t850.length co32)) g s0_0 t847 from by repeat (first | (with_reducible first | exact HI0.out | apply IsS99.alloc | apply IsS99.drewN | apply IsS99.drew | apply IsS99.set_1 | refine IsS99.far ?_ NB0_835.out _ | refine IsS99.far ?_ NB0_853.out _) | exact HI0.out)) hb); have n5_ := Aside0.mk (blk_below (g := gb853) (o := .cells #[.int .i64 t848, .int .i64 t849, .slice Ao32 t850.length co32] 25 (0, 0)) (by (with_reducible repeat (first | refine blk_drewN ?_ _ | refine blk_drew ?_ | refine blk_alloc ?_ _)); refine blk_put (cs := #[.int .i64 t848, .int .i64 t849, .slice none 0 0]) ?_ 2 _ rfl; (with_reducible repeat (first | refine blk_drewN ?_ _ | refine blk_drew ?_ | refine blk_alloc ?_ _)); refine blk_put (cs := #[.int .i64 t848, .int .i64 0, .slice none 0 0]) ?_ 1 _ rfl; (with_reducible repeat (first | refine blk_drewN ?_ _ | refine blk_drew ?_ | refine blk_alloc ?_ _)); refine blk_put (cs := #[.int .i64 0, .int .i64 0, .slice none 0 0]) ?_ 0 _ rfl; (with_reducible repeat (first | refine blk_drewN ?_ _ | refine blk_drew ?_ | refine blk_alloc ?_ _)); exact BK853.out) hb); have n6_ := Aside0.mk (KeepBut.trans (by repeat (first | (with_reducible first | exact HK.out | apply KeepBut.set_ | apply keep_drewN | apply keep_drew | apply keep_alloc | refine keep_far ?_ GW835.out _ | refine keep_far ?_ GW853.out _) | exact HK.out)) (KeepBut.of_below hb g none) (.inl rfl)); have n7_ := Aside0.mk (below_step (by repeat (first | (with_reducible first | exact HB.out | apply below_alloc | apply pw_below_drewN | apply below_drew1 | refine below_set ?_ (IsS99.ge HI0.out) | refine below_set ?_ GE835.out | refine below_set ?_ GE853.out) | exact HB.out)) hb); clear HO_5; clear HO852; clear BK835; clear HI0; clear BK853; clear HK; clear HB; have HO_5 := n0_; have HO852 := n1_; have HO856 := n2_; have BK835 := n3_; have HI0 := n4_; have BK853 := n5_; have HK := n6_; have HB := n7_; clear n0_ n1_ n2_ n3_ n4_ n5_ n6_ n7_; (try clear hb); (try clear hb2); (try clear hk); (try clear hi); (try clear ho0)) | ((with_reducible refine gate_dst (N := 31) rfl ?_); (try (refine gate_guard (by rfl) ?_; dsimp only)); refine Kd.R_lit (Kd.int .u8) _ 5 ?hg (N := 31) ?hd (xs := ([] : List Int)) (inner := []) (ok := fun _ => True) (okp := fun _ => True) ?hr ?hp (fun _ hk => hk) trivial (Below.refl _ _) (Nat.le_refl _) (by simp) ?_; (case hd => rfl); (case hg => rfl); (case hr => first | (go_simp; done) | (go_simp; rfl)); (case hp => exact (Reps.none _ _)); intro v858 w34 ho35 hb hg_ hnew_; clear hg_ hnew_; (first | rw [← Ny857.out] at ho35 | (simp only [Int.reduceToNat] at ho35; rw [← Ny857.out] at ho35)); have n0_ := Aside0.mk (Kd.N_elder' (by (with_reducible repeat (first | apply Kd.N_alloc | apply Kd.N_drewN | apply Kd.N_drew)); exact HO_5.out) (Kd.R_base ho35) hb); have n1_ := Aside0.mk (Kd.N_elder' (by (with_reducible repeat (first | apply Kd.N_alloc | apply Kd.N_drewN | apply Kd.N_drew)); exact HO852.out) (Kd.R_base ho35) hb); have n2_ := Aside0.mk (Kd.R_elder' (by (with_reducible repeat (first | apply Kd.R_alloc | apply Kd.R_drewN | apply Kd.R_drew)); exact HO856.out) (Kd.R_base ho35) hb); have n3_ := Aside0.mk (Kd.R_lower (Kd.R_new' (Kd.R_newM (M := fun k_ => (w.heap.size ≤ k_)) ho35 (keep_size (w := w) (g := g) (row := none) (by repeat (first | (with_reducible first | exact HK.out | apply KeepBut.set_ | apply keep_drewN | apply keep_drew | apply keep_alloc | refine keep_far ?_ GW835.out _ | refine keep_far ?_ GW853.out _) | exact HK.out))) (fun k_ h_ => h_)) (Kd.R_lt (by (with_reducible repeat (first | apply Kd.R_alloc | apply Kd.R_drewN | apply Kd.R_drew)); exact HO856.out))) (keep_size (w := w) (g := g) (row := none) (by repeat (first | (with_reducible first | exact HK.out | apply KeepBut.set_ | apply keep_drewN | apply keep_drew | apply keep_alloc | refine keep_far ?_ GW835.out _ | refine keep_far ?_ GW853.out _) | exact HK.out)))); have n4_ := Aside0.mk (blk_below (g := gb835) (o := .cells #[.int .i64 0, .int .i64 0, .slice none 0 0] 25 (0, 0)) (by (with_reducible repeat (first | refine blk_drewN ?_ _ | refine blk_drew ?_ | refine blk_alloc ?_ _)); exact BK835.out) hb); have n5_ := Aside0.mk (IsS99.below (by repeat (first | (with_reducible first | exact HI0.out | apply IsS99.alloc | apply IsS99.drewN | apply IsS99.drew | apply IsS99.set_1 | refine IsS99.far ?_ NB0_835.out _ | refine IsS99.far ?_ NB0_853.out _) | exact HI0.out)) hb); have n6_ := Aside0.mk (blk_below (g := gb853) (o := .cells #[.int .i64 t848, .int .i64 t849, .slice Ao32 t850.length co32] 25 (0, 0)) (by (with_reducible repeat (first | refine blk_drewN ?_ _ | refine blk_drew ?_ | refine blk_alloc ?_ _)); exact BK853.out) hb); have n7_ := Aside0.mk (KeepBut.trans (by repeat (first | (with_reducible first | exact HK.out | apply KeepBut.set_ | apply keep_drewN | apply keep_drew | apply keep_alloc | refine keep_far ?_ GW835.out _ | refine keep_far ?_ GW853.out _) | exact HK.out)) (KeepBut.of_below hb g none) (.inl rfl)); have n8_ := Aside0.mk (below_step (by repeat (first | (with_reducible first | exact HB.out | apply below_alloc | apply pw_below_drewN | apply below_drew1 | refine below_set ?_ (IsS99.ge HI0.out) | refine below_set ?_ GE835.out | refine below_set ?_ GE853.out) | exact HB.out)) hb); clear HO_5; clear HO852; clear HO856; clear BK835; clear HI0; clear BK853; clear HK; clear HB; have HO_5 := n0_; have HO852 := n1_; have HO856 := n2_; have HO859 := n3_; have BK835 := n4_; have HI0 := n5_; have BK853 := n6_; have HK := n7_; have HB := n8_; clear n0_ n1_ n2_ n3_ n4_ n5_ n6_ n7_ n8_; clear hb ho35; have p860 : 0 ≤ (t846 : Int) := of_decide_eq_true (by first | (with_reducible assumption) | assumption); have q860 : t846 < (x5_8.length : Int) := of_decide_eq_true (by first | (with_reducible assumption) | assumption); obtain ⟨ad860, A860_0, c860_0, e860, hx860_0, hl860_0, hi860_0⟩ := at_L1 (Kd.N_reads' HO_5.out).2.2 t846 p860 q860; cases e860; obtain ⟨ce860, hce860, hMe860, hcc860⟩ := Kd.N_get HO_5.out [] t846 p860 (by first | exact q860 | exact of_decide_eq_true (by first | (with_reducible assumption) | assumption) | (have e_ := (Kd.N_reads' HO_5.out).1; omega)); obtain ⟨ua860_0, uc860_0, rfl, ul860_0, ge860_0⟩ := Kd.FK_slice_open hMe860; have hv860_0 := hcc860 0 _ rfl; rw [Nat.add_zero, show ((Kd.slice 5 (Kd.int .u8))).sz = 1 from rfl, Nat.mul_one] at hv860_0; replace hv860_0 := Option.some.inj (hv860_0.symm.trans hx860_0); injection hv860_0 with hva_ hvn_ hvc_; rw [hva_] at ge860_0; rw [hvc_] at ul860_0; have HL860_0 := Aside0.mk (show Kd.V (Kd.int .u8) 5 _ w.heap.size _ _ (rd_L1 x5_8 t846) from Kd.V_mk ul860_0 ge860_0); clear hva_ hvn_ hvc_ ge860_0 ul860_0; clear hcc860 hce860; have HR860_0 := Aside0.mk hi860_0; have HC860_0 := Aside0.mk hl860_0; clear hi860_0 hl860_0; replace p860 := eq_true p860; replace q860 := eq_true q860) | ((with_reducible refine gate_builtin (b := .append) (xs := #[.tmp 31, .tmp 35]) rfl ?_); (try (refine gate_guard (by rfl) ?_; dsimp only)); at_builtin; refine Kd.R_append_rows (Kd.int .u8) w.heap.size rfl (.tmp 31) (.tmp 35) 22 5 (.int .u8 0) 1 rfl Try.underlying22 info5 rfl (by decide) (by omega) v858 y857 (rd_L1 x5_8 t846) _ _ _ (fun k_ => (w.heap.size ≤ k_) ∧ some k_ ≠ (v855 : Value).ownBlock) (fun _ => False) rfl rfl ?aO ?aR (fun _ _ h => h) (fun _ h => h.elim) ?aF (Below.refl _ _) ?aS ?aL ?_; (case aR => repeat (first | exact (by repeat (first | (with_reducible exact HR860_0.out) | (with_reducible refine Kd.C_alloc ?_ _) | (with_reducible refine Kd.C_drewN ?_ _) | (with_reducible refine Kd.C_drew ?_) | exact HR860_0.out)) | (with_reducible refine Kd.C_alloc ?_ _) | (with_reducible refine Kd.C_drewN ?_ _) | (with_reducible refine Kd.C_drew ?_))); (case aF => exact (fun k_ hk => ⟨(Nat.le_trans (keep_size (w := w) (g := g) (row := none) (by repeat (first | (with_reducible first | exact HK.out | apply KeepBut.set_ | apply keep_drewN | apply keep_drew | apply keep_alloc | refine keep_far ?_ GW835.out _ | refine keep_far ?_ GW853.out _) | exact HK.out))) hk), Kd.fresh' (Kd.R_lt (by (with_reducible repeat (first | apply Kd.R_alloc | apply Kd.R_drewN | apply Kd.R_drew)); exact HO856.out)) k_ hk⟩)); (case aO => exact (by (with_reducible repeat (first | apply Kd.R_alloc | apply Kd.R_drewN | apply Kd.R_drew)); exact Kd.R_mono HO859.out (fun _ hk => ⟨hk.1.1, hk.2⟩))); (case aS => exact (keep_size (w := w) (g := g) (row := none) (by repeat (first | (with_reducible first | exact HK.out | apply KeepBut.set_ | apply keep_drewN | apply keep_drew | apply keep_alloc | refine keep_far ?_ GW835.out _ | refine keep_far ?_ GW853.out _) | exact HK.out)))); (case aL => have := LMc21.out; omega); intro v862 w36 ho hb hg hat; rw [← Ny861.out] at ho; have n0_ := Aside0.mk (Kd.N_afterv (ok := (fun k_ => (w.heap.size ≤ k_) ∧ some k_ ≠ (.slice Ao32 t850.length co32 : Value).ownBlock ∧ some k_ ≠ (v855 : Value).ownBlock ∧ k_ ≠ gb835 ∧ k_ ≠ g ∧ k_ ≠ gb853)) (by (with_reducible repeat (first | apply Kd.N_alloc | apply Kd.N_drewN | apply Kd.N_drew)); exact Kd.N_mono HO_5.out (fun _ hk => ⟨⟨hk.1.1.1.1.1, ⟨hk.1.1.1.2, ⟨hk.1.2, ⟨hk.1.1.1.1.2.1, ⟨hk.1.1.1.1.2.2, hk.1.1.2⟩⟩⟩⟩⟩, hk.2⟩)) hg hat); have n1_ := Aside0.mk (blk_grown (g := gb835) (o := .cells #[.int .i64 0, .int .i64 0, .slice none 0 0] 25 (0, 0)) (by (with_reducible repeat (first | refine blk_drewN ?_ _ | refine blk_drew ?_ | refine blk_alloc ?_ _)); exact BK835.out) hg (Kd.R_ne HO859.out BK835.out (by decide))); have n2_ := Aside0.mk (IsS99.grown (by repeat (first | (with_reducible first | exact HI0.out | apply IsS99.alloc | apply IsS99.drewN | apply IsS99.drew | apply IsS99.set_1 | refine IsS99.far ?_ NB0_835.out _ | refine IsS99.far ?_ NB0_853.out _) | exact HI0.out)) hg (IsS99.own_ne HI0.out HO859.out (by decide))); have n3_ := Aside0.mk (Kd.N_afterv (ok := (fun k_ => (w.heap.size ≤ k_) ∧ some k_ ≠ (.slice (some ad860) x5_8.length co25 : Value).ownBlock ∧ some k_ ≠ (v855 : Value).ownBlock ∧ k_ ≠ gb835 ∧ k_ ≠ g ∧ k_ ≠ gb853)) (by (with_reducible repeat (first | apply Kd.N_alloc | apply Kd.N_drewN | apply Kd.N_drew)); exact Kd.N_mono HO852.out (fun _ hk => ⟨⟨hk.1.1.1.1, ⟨hk.1.1.1.2.1, ⟨hk.1.2, ⟨hk.1.1.1.2.2.1, ⟨hk.1.1.1.2.2.2, hk.1.1.2⟩⟩⟩⟩⟩, hk.2⟩)) hg hat); have n4_ := Aside0.mk (blk_grown (g := gb853) (o := .cells #[.int .i64 t848, .int .i64 t849, .slice Ao32 t850.length co32] 25 (0, 0)) (by (with_reducible repeat (first | refine blk_drewN ?_ _ | refine blk_drew ?_ | refine blk_alloc ?_ _)); exact BK853.out) hg (Kd.R_ne HO859.out BK853.out (by decide))); have n5_ := Aside0.mk (Kd.R_after (ok := (fun k_ => (w.heap.size ≤ k_))) (by (with_reducible repeat (first | apply Kd.R_alloc | apply Kd.R_drewN | apply Kd.R_drew)); exact Kd.R_mono HO856.out (fun _ hk => ⟨hk.1.1, hk.2⟩)) hg hat); have n6_ := Aside0.mk (Kd.V_afterv (ok := (fun k_ => (w.heap.size ≤ k_) ∧ some k_ ≠ (.slice (some ad860) x5_8.length co25 : Value).ownBlock ∧ some k_ ≠ (.slice Ao32 t850.length co32 : Value).ownBlock ∧ some k_ ≠ (v855 : Value).ownBlock ∧ k_ ≠ gb835 ∧ k_ ≠ g ∧ k_ ≠ gb853)) (by (with_reducible repeat (first | apply Kd.V_alloc | apply Kd.V_drewN | apply Kd.V_drew)); exact Kd.V_mono HL860_0.out (fun _ hk => ⟨⟨hk.1.1.1.1.1.1, ⟨hk.2, ⟨hk.1.1.1.1.2, ⟨hk.1.1.2, ⟨hk.1.1.1.1.1.2.1, ⟨hk.1.1.1.1.1.2.2, hk.1.1.1.2⟩⟩⟩⟩⟩⟩, hk.1.2⟩)) hg hat); have n7_ := Aside0.mk (below_weaken (by repeat (first | (with_reducible first | exact HB.out | apply below_alloc | apply pw_below_drewN | apply below_drew1 | refine below_set ?_ (IsS99.ge HI0.out) | refine below_set ?_ GE835.out | refine below_set ?_ GE853.out) | exact HB.out)) HL.out hb); have n8_ := Aside0.mk (KeepBut.trans (by repeat (first | (with_reducible first | exact HK.out | apply KeepBut.set_ | apply keep_drewN | apply keep_drew | apply keep_alloc | refine keep_far ?_ GW835.out _ | refine keep_far ?_ GW853.out _) | exact HK.out)) (KeepBut.of_grown hg g) (Kd.R_base2 HO859.out)); have n9_ := Aside0.mk (ho); clear HO_5; clear BK835; clear HI0; clear HO852; clear BK853; clear HO856; clear HL860_0; clear HB; clear HK; clear HO859; have HO_5 := n0_; have BK835 := n1_; have HI0 := n2_; have HO852 := n3_; have BK853 := n4_; have HO856 := n5_; have HL860_0 := n6_; have HB := n7_; have HK := n8_; have HO863 := n9_; clear n0_ n1_ n2_ n3_ n4_ n5_ n6_ n7_ n8_ n9_; clear ho hb hg hat) | ((with_reducible refine gate_callee (f := 58) rfl ?_); refine holdD_here ?_))
                refine holdD_go ?_
                refine goesL_ (some 38) rfl rfl Try.func58 (by kernel_rfl) rfl #[.pointer (some ⟨g, 0, none⟩), .int .i64 10] rfl (by (try simp only [List.map_toArray, List.map_cons, List.map_nil]); first | done | rfl | (simp only [List.length_drop, List.length_take]; rfl)) ?_
                with_reducible refine (spec_l1Next.calls g s0_0 t847 10 t864 t865 w0 _ ?side1 ?side2 A22.out).mono ?_
                case side1 => repeat (first | (with_reducible first | exact HI0.out | apply IsS99.alloc | apply IsS99.drewN | apply IsS99.drew | apply IsS99.set_1 | refine IsS99.far ?_ NB0_835.out _ | refine IsS99.far ?_ NB0_853.out _) | exact HI0.out)
                case side2 => repeat (first | (with_reducible first | exact HB.out | apply below_alloc | apply pw_below_drewN | apply below_drew1 | refine below_set ?_ (IsS99.ge HI0.out) | refine below_set ?_ GE835.out | refine below_set ?_ GE853.out) | exact HB.out)
                rintro e w37 ⟨rfl, hi, hb, hk⟩
                refine ⟨_, rfl, ?_⟩
                have n0_ := Aside0.mk (Kd.N_mono (Kd.N_keep (Kd.N_mono (ok := fun k_ => ((((w.heap.size ≤ k_)) ∧ (some k_ ≠ (.slice Ao32 t850.length co32 : Value).ownBlock ∧ (some k_ ≠ (v855 : Value).ownBlock ∧ (k_ ≠ gb835 ∧ (k_ ≠ g ∧ k_ ≠ gb853))))) ∧ some k_ ≠ (v862 : Value).ownBlock)) (by (with_reducible repeat (first | apply Kd.N_alloc | apply Kd.N_drewN | apply Kd.N_drew)); exact HO_5.out) (fun k_ hk_ => (⟨hk_, hk_.1.2.2.2.2.1⟩ : _ ∧ k_ ≠ g))) hk (fun _ h => h.2)) (fun _ h => h.1))
                have n1_ := Aside0.mk (KeepBut.blk hk (g' := gb835) (o := .cells #[.int .i64 0, .int .i64 0, .slice none 0 0] 25 (0, 0)) (by (with_reducible repeat (first | refine blk_drewN ?_ _ | refine blk_drew ?_ | refine blk_alloc ?_ _)); exact BK835.out) NB835_0.out (by simp))
                have n2_ := Aside0.mk (Kd.N_mono (Kd.N_keep (Kd.N_mono (ok := fun k_ => ((((w.heap.size ≤ k_)) ∧ (some k_ ≠ (.slice (some ad860) x5_8.length co25 : Value).ownBlock ∧ (some k_ ≠ (v855 : Value).ownBlock ∧ (k_ ≠ gb835 ∧ (k_ ≠ g ∧ k_ ≠ gb853))))) ∧ some k_ ≠ (v862 : Value).ownBlock)) (by (with_reducible repeat (first | apply Kd.N_alloc | apply Kd.N_drewN | apply Kd.N_drew)); exact HO852.out) (fun k_ hk_ => (⟨hk_, hk_.1.2.2.2.2.1⟩ : _ ∧ k_ ≠ g))) hk (fun _ h => h.2)) (fun _ h => h.1))
                have n3_ := Aside0.mk (KeepBut.blk hk (g' := gb853) (o := .cells #[.int .i64 t848, .int .i64 t849, .slice Ao32 t850.length co32] 25 (0, 0)) (by (with_reducible repeat (first | refine blk_drewN ?_ _ | refine blk_drew ?_ | refine blk_alloc ?_ _)); exact BK853.out) NB853_0.out (by simp))
                have n4_ := Aside0.mk (Kd.R_mono (Kd.R_keep (IsS99.apart (show IsS99 w0 _ g s0_0 t847 from by repeat (first | (with_reducible first | exact HI0.out | apply IsS99.alloc | apply IsS99.drewN | apply IsS99.drew | apply IsS99.set_1 | refine IsS99.far ?_ NB0_835.out _ | refine IsS99.far ?_ NB0_853.out _) | exact HI0.out)) (by (with_reducible repeat (first | apply Kd.R_alloc | apply Kd.R_drewN | apply Kd.R_drew)); exact HO856.out) (by decide)) hk (fun _ h => h.2)) (fun _ h => h.1))
                have n5_ := Aside0.mk (Kd.V_mono (Kd.V_keep (Kd.V_mono (ok := fun k_ => ((((w.heap.size ≤ k_)) ∧ (some k_ ≠ (.slice (some ad860) x5_8.length co25 : Value).ownBlock ∧ (some k_ ≠ (.slice Ao32 t850.length co32 : Value).ownBlock ∧ (some k_ ≠ (v855 : Value).ownBlock ∧ (k_ ≠ gb835 ∧ (k_ ≠ g ∧ k_ ≠ gb853)))))) ∧ some k_ ≠ (v862 : Value).ownBlock)) (by (with_reducible repeat (first | apply Kd.V_alloc | apply Kd.V_drewN | apply Kd.V_drew)); exact HL860_0.out) (fun k_ hk_ => (⟨hk_, hk_.1.2.2.2.2.2.1⟩ : _ ∧ k_ ≠ g))) hk (fun _ h => h.2)) (fun _ h => h.1))
                have n6_ := Aside0.mk (Kd.R_mono (Kd.R_keep (IsS99.apart (show IsS99 w0 _ g s0_0 t847 from by repeat (first | (with_reducible first | exact HI0.out | apply IsS99.alloc | apply IsS99.drewN | apply IsS99.drew | apply IsS99.set_1 | refine IsS99.far ?_ NB0_835.out _ | refine IsS99.far ?_ NB0_853.out _) | exact HI0.out)) (by (with_reducible repeat (first | apply Kd.R_alloc | apply Kd.R_drewN | apply Kd.R_drew)); exact HO863.out) (by decide)) hk (fun _ h => h.2)) (fun _ h => h.1))
                have n7_ := Aside0.mk (KeepBut.trans (by repeat (first | (with_reducible first | exact HK.out | apply KeepBut.set_ | apply keep_drewN | apply keep_drew | apply keep_alloc | refine keep_far ?_ GW835.out _ | refine keep_far ?_ GW853.out _) | exact HK.out)) hk (.inl rfl))
                have n8_ := Aside0.mk (hb)
                have n9_ := Aside0.mk (hi)
                clear HO_5
                clear BK835
                clear HO852
                clear BK853
                clear HO856
                clear HL860_0
                clear HO863
                clear HK
                clear HB
                clear HI0
                have HO_5 := n0_
                have BK835 := n1_
                have HO852 := n2_
                have BK853 := n3_
                have HO856 := n4_
                have HL860_0 := n5_
                have HO863 := n6_
                have HK := n7_
                have HB := n8_
                have HI0 := n9_
                clear n0_ n1_ n2_ n3_ n4_ n5_ n6_ n7_ n8_ n9_
                try clear hb
                try clear hb2
                try clear hk
                try clear hi
                by_cases c23 : t864 = 0
                · rw [if_pos c23] at H
                  have c23b0 : (t864 == 0) = true := beq_iff_eq.mpr c23
                  have c23b1 : (t864 != 0) = false := bne_eq_false_iff_eq.mpr c23
                  clear c23
                  by_cases c24 : y861.length < 140737488355328
                  · rw [if_pos c24] at H
                    have LMc24 := Aside0.mk c24
                    clear c24
                    obtain ⟨y866, hy866⟩ : ∃ y_ : List Int, y_ = (y861 ++ [0]) := ⟨_, rfl⟩
                    replace H : (some (t854, y866, t848, t849, t850, t865)) = some (r1, r2, r3, r4, r5, r6) := by first | (rw [hy866]; with_reducible exact H) | (have H2_ := (Option.bind_some _ _).symm.trans H; rw [hy866]; with_reducible exact H2_) | (have H2_ := (Option.bind_some _ _).symm.trans H; with_reducible exact H2_) | with_reducible exact H | (rw [hy866]; exact H) | exact H
                    have Ny866 := Aside0.mk hy866
                    clear hy866
                    simp only [Option.some.injEq, Prod.mk.injEq] at H
                    obtain ⟨rfl, rfl, rfl, rfl, rfl, rfl⟩ := H
                    try go_wp2_with (first | ((with_reducible refine gate_builtin (b := .append) (xs := #[.tmp 41, .tmp 42]) rfl ?_); (try (refine gate_guard (by rfl) ?_; dsimp only)); at_builtin; refine Kd.R_append (Kd.int .u8) w.heap.size rfl (.tmp 41) (.tmp 42) 22 5 (.int .u8 0) 1 rfl Try.underlying22 info5 rfl (by decide) (by omega) v862 y861 0 [.int .u8 0] (fun k_ => (w.heap.size ≤ k_) ∧ some k_ ≠ (v855 : Value).ownBlock) (fun _ => False) rfl rfl ?aP (fun _ hk => hk.elim) ?aF ?aO (Below.refl _ _) ?aS ?aL ?_; (case aP => exact rfl); (case aF => exact (fun k_ hk => ⟨(Nat.le_trans (keep_size (w := w) (g := g) (row := none) (by repeat (first | (with_reducible first | exact HK.out | apply KeepBut.set_ | apply keep_drewN | apply keep_drew | apply keep_alloc | refine keep_far ?_ GW835.out _ | refine keep_far ?_ GW853.out _) | exact HK.out))) hk), Kd.fresh' (Kd.R_lt (by (with_reducible repeat (first | apply Kd.R_alloc | apply Kd.R_drewN | apply Kd.R_drew)); exact HO856.out)) k_ hk⟩)); (case aO => exact (by (with_reducible repeat (first | apply Kd.R_alloc | apply Kd.R_drewN | apply Kd.R_drew)); exact HO863.out)); (case aS => exact (keep_size (w := w) (g := g) (row := none) (by repeat (first | (with_reducible first | exact HK.out | apply KeepBut.set_ | apply keep_drewN | apply keep_drew | apply keep_alloc | refine keep_far ?_ GW835.out _ | refine keep_far ?_ GW853.out _) | exact HK.out)))); (case aL => have := LMc24.out; omega); intro v867 w38 ho hb hg hat; rw [← Ny866.out] at ho; have n0_ := Aside0.mk (Kd.N_afterv (ok := (fun k_ => (w.heap.size ≤ k_) ∧ some k_ ≠ (.slice Ao32 t850.length co32 : Value).ownBlock ∧ some k_ ≠ (v855 : Value).ownBlock ∧ k_ ≠ gb835 ∧ k_ ≠ g ∧ k_ ≠ gb853)) (by (with_reducible repeat (first | apply Kd.N_alloc | apply Kd.N_drewN | apply Kd.N_drew)); exact HO_5.out) hg hat); have n1_ := Aside0.mk (blk_grown (g := gb835) (o := .cells #[.int .i64 0, .int .i64 0, .slice none 0 0] 25 (0, 0)) (by (with_reducible repeat (first | refine blk_drewN ?_ _ | refine blk_drew ?_ | refine blk_alloc ?_ _)); exact BK835.out) hg (Kd.R_ne HO863.out BK835.out (by decide))); have n2_ := Aside0.mk (IsS99.grown (by repeat (first | (with_reducible first | exact HI0.out | apply IsS99.alloc | apply IsS99.drewN | apply IsS99.drew | apply IsS99.set_1 | refine IsS99.far ?_ NB0_835.out _ | refine IsS99.far ?_ NB0_853.out _) | exact HI0.out)) hg (IsS99.own_ne HI0.out HO863.out (by decide))); have n3_ := Aside0.mk (Kd.N_afterv (ok := (fun k_ => (w.heap.size ≤ k_) ∧ some k_ ≠ (.slice (some ad860) x5_8.length co25 : Value).ownBlock ∧ some k_ ≠ (v855 : Value).ownBlock ∧ k_ ≠ gb835 ∧ k_ ≠ g ∧ k_ ≠ gb853)) (by (with_reducible repeat (first | apply Kd.N_alloc | apply Kd.N_drewN | apply Kd.N_drew)); exact HO852.out) hg hat); have n4_ := Aside0.mk (blk_grown (g := gb853) (o := .cells #[.int .i64 t848, .int .i64 t849, .slice Ao32 t850.length co32] 25 (0, 0)) (by (with_reducible repeat (first | refine blk_drewN ?_ _ | refine blk_drew ?_ | refine blk_alloc ?_ _)); exact BK853.out) hg (Kd.R_ne HO863.out BK853.out (by decide))); have n5_ := Aside0.mk (Kd.R_after (ok := (fun k_ => (w.heap.size ≤ k_))) (by (with_reducible repeat (first | apply Kd.R_alloc | apply Kd.R_drewN | apply Kd.R_drew)); exact HO856.out) hg hat); have n6_ := Aside0.mk (Kd.V_afterv (ok := (fun k_ => (w.heap.size ≤ k_) ∧ some k_ ≠ (.slice (some ad860) x5_8.length co25 : Value).ownBlock ∧ some k_ ≠ (.slice Ao32 t850.length co32 : Value).ownBlock ∧ some k_ ≠ (v855 : Value).ownBlock ∧ k_ ≠ gb835 ∧ k_ ≠ g ∧ k_ ≠ gb853)) (by (with_reducible repeat (first | apply Kd.V_alloc | apply Kd.V_drewN | apply Kd.V_drew)); exact HL860_0.out) hg hat); have n7_ := Aside0.mk (below_weaken (by repeat (first | (with_reducible first | exact HB.out | apply below_alloc | apply pw_below_drewN | apply below_drew1 | refine below_set ?_ (IsS99.ge HI0.out) | refine below_set ?_ GE835.out | refine below_set ?_ GE853.out) | exact HB.out)) HL.out hb); have n8_ := Aside0.mk (KeepBut.trans (by repeat (first | (with_reducible first | exact HK.out | apply KeepBut.set_ | apply keep_drewN | apply keep_drew | apply keep_alloc | refine keep_far ?_ GW835.out _ | refine keep_far ?_ GW853.out _) | exact HK.out)) (KeepBut.of_grown hg g) (Kd.R_base2 HO863.out)); have n9_ := Aside0.mk (ho); clear HO_5; clear BK835; clear HI0; clear HO852; clear BK853; clear HO856; clear HL860_0; clear HB; clear HK; clear HO863; have HO_5 := n0_; have BK835 := n1_; have HI0 := n2_; have HO852 := n3_; have BK853 := n4_; have HO856 := n5_; have HL860_0 := n6_; have HB := n7_; have HK := n8_; have HO868 := n9_; clear n0_ n1_ n2_ n3_ n4_ n5_ n6_ n7_ n8_ n9_; clear ho hb hg hat))
                    have n0_ := Aside0.mk (Kd.N_drew HO_5.out)
                    have n1_ := Aside0.mk (Kd.N_drew HO852.out)
                    have n2_ := Aside0.mk (Kd.R_drew HO856.out)
                    have n3_ := Aside0.mk (Kd.V_drew HL860_0.out)
                    have n4_ := Aside0.mk (Kd.R_drew HO868.out)
                    have n5_ := Aside0.mk (blk_drew BK835.out)
                    have n6_ := Aside0.mk (blk_drew BK853.out)
                    have n7_ := Aside0.mk (IsS99.drew HI0.out)
                    have n8_ := Aside0.mk (keep_drew HK.out)
                    have n9_ := Aside0.mk (below_drew1 HB.out)
                    clear HO_5
                    clear HO852
                    clear HO856
                    clear HL860_0
                    clear HO868
                    clear BK835
                    clear BK853
                    clear HI0
                    clear HK
                    clear HB
                    have HO_5 := n0_
                    have HO852 := n1_
                    have HO856 := n2_
                    have HL860_0 := n3_
                    have HO868 := n4_
                    have BK835 := n5_
                    have BK853 := n6_
                    have HI0 := n7_
                    have HK := n8_
                    have HB := n9_
                    clear n0_ n1_ n2_ n3_ n4_ n5_ n6_ n7_ n8_ n9_
                    refine start_ (n := 6) (S := fun w' => w'.cell? ⟨gb853, 0, none⟩ = some (.int .i64 t848) ∧ w'.cell? ⟨gb853, 1, none⟩ = some (.int .i64 t849) ∧ w'.cell? ⟨gb853, 2, none⟩ = some (.slice Ao32 t850.length co32)) (ds := []) #[false, false, false, false, false, false] (by kernel_rfl) rfl rfl ⟨(blk_cell BK853.out 0).trans (by first | rfl | (simp only [*] <;> rfl)), (blk_cell BK853.out 1).trans (by first | rfl | (simp only [*] <;> rfl)), (blk_cell BK853.out 2).trans (by first | rfl | (simp only [*] <;> rfl))⟩ (fun hHeld => ?_)
                    generalize w38.drew = w39 at HO_5 HO852 HO856 HL860_0 HO868 BK835 BK853 HI0 HK HB hHeld ⊢
                    refine pure_ (i := 0) (N := some 94) (v := ?_) (a' := ?_) #[true, false, false, false, false, false] rfl rfl (by kernel_rfl) (fun _ _ _ h => h) (Or.inl ⟨by rfl, ?_⟩) ?_ ?_
                    rotate_left
                    · intro w'
                      go_simp
                      with_reducible rfl
                    rotate_left
                    · simp only [Act.put, List.setIfInBounds_toArray, List.set_cons_zero, List.set_cons_succ, i64_w, i32_w]
                      rfl
                    refine pure_ (i := 1) (N := some 95) (v := ?_) (a' := ?_) #[true, true, false, false, false, false] rfl rfl (by kernel_rfl) (fun _ _ _ h => h) (Or.inl ⟨by rfl, ?_⟩) ?_ ?_
                    rotate_left
                    · intro w'
                      go_simp
                      with_reducible rfl
                    rotate_left
                    · simp only [Act.put, List.setIfInBounds_toArray, List.set_cons_zero, List.set_cons_succ, i64_w, i32_w]
                      rfl
                    refine pure_ (i := 3) (N := some 2) (v := ?_) (a' := ?_) #[true, true, false, true, false, false] rfl rfl (by kernel_rfl) (fun _ _ _ h => h) (Or.inl ⟨by rfl, ?_⟩) ?_ ?_
                    rotate_left
                    · intro w'
                      go_simp
                      with_reducible rfl
                    rotate_left
                    · simp only [Act.put, List.setIfInBounds_toArray, List.set_cons_zero, List.set_cons_succ, i64_w, i32_w]
                      rfl
                    refine pure_ (i := 4) (N := some 3) (v := ?_) (a' := ?_) #[true, true, false, true, true, false] rfl rfl (by kernel_rfl) (fun _ _ _ h => h) (Or.inl ⟨by rfl, ?_⟩) ?_ ?_
                    rotate_left
                    · intro w'
                      go_simp
                      with_reducible rfl
                    rotate_left
                    · simp only [Act.put, List.setIfInBounds_toArray, List.set_cons_zero, List.set_cons_succ, i64_w, i32_w]
                      rfl
                    refine take_ (i := 2) (N := some 96) (v := ?_) (a' := ?_) #[true, true, true, true, true, false] rfl rfl (by kernel_rfl) (fun _ _ _ h => h) (Or.inl ⟨by rfl, ?_⟩) hHeld ?_ ?_
                    rotate_left
                    · rintro w' ⟨s0, s1, s2⟩
                      go_simp
                      with_reducible rfl
                    rotate_left
                    · simp only [Act.put, List.setIfInBounds_toArray, List.set_cons_zero, List.set_cons_succ, i64_w, i32_w]
                      rfl
                    refine one_ (i := 5) (N := none) #[true, true, true, true, true, true] rfl rfl (by kernel_rfl) (by decide) (fun K hK => ?_)
                    have hs40 : w39.cell? ⟨gb835, 0, none⟩ = some (.int .i64 0) := (blk_cell BK835.out 0).trans (by first | rfl | (simp only [*] <;> rfl))
                    have hfs40 := blk_frozen BK835.out 0
                    have hns40_1 := NB853_835.out
                    have hms40_1 := NB835_853.out
                    have hs41 : w39.cell? ⟨gb835, 1, none⟩ = some (.int .i64 0) := (blk_cell BK835.out 1).trans (by first | rfl | (simp only [*] <;> rfl))
                    have hfs41 := blk_frozen BK835.out 1
                    have hns41_1 := NB853_835.out
                    have hms41_1 := NB835_853.out
                    have hs42 : w39.cell? ⟨gb835, 2, none⟩ = some (.slice none 0 0) := (blk_cell BK835.out 2).trans (by first | rfl | (simp only [*] <;> rfl))
                    have hfs42 := blk_frozen BK835.out 2
                    have hns42_1 := NB853_835.out
                    have hms42_1 := NB835_853.out
                    refine skip_ (w1 := ?_) (by rfl) rfl ?_ ?_
                    rotate_left
                    · go_simp
                      rfl
                    refine hK.out _ _ ⟨((cell_far (p := ⟨gb835, _, none⟩) NB853_835.out _).trans (((cell_far (p := ⟨gb835, _, none⟩) NB853_835.out _).trans (((cell_far (p := ⟨gb835, _, none⟩) NB853_835.out _).trans (hHeld.1)))))), ((cell_far (p := ⟨gb835, _, none⟩) NB853_835.out _).trans (((cell_far (p := ⟨gb835, _, none⟩) NB853_835.out _).trans (((cell_far (p := ⟨gb835, _, none⟩) NB853_835.out _).trans (hHeld.2.1)))))), ((cell_far (p := ⟨gb835, _, none⟩) NB853_835.out _).trans (((cell_far (p := ⟨gb835, _, none⟩) NB853_835.out _).trans (((cell_far (p := ⟨gb835, _, none⟩) NB853_835.out _).trans (hHeld.2.2))))))⟩ (fun hHeld => ?_)
                    clear hK K
                    refine done_ (by kernel_rfl) ?_
                    try go_wp2
                    refine bodyPost_ret (results_list (rs := [.tmp 2, .tmp 3, .cell 4 25]) rfl (by simp) (.tmp (.tmp (.cell gb835 25 #[.int .i64 t848, .int .i64 t849, .slice Ao32 t850.length co32] (0, 0) _ rfl (by (with_reducible repeat (first | refine blk_drewN ?_ _ | refine blk_drew ?_ | refine blk_alloc ?_ _)); refine blk_put (cs := #[.int .i64 t848, .int .i64 t849, .slice none 0 0]) ?_ 2 _ rfl; (with_reducible repeat (first | refine blk_drewN ?_ _ | refine blk_drew ?_ | refine blk_alloc ?_ _)); refine blk_put (cs := #[.int .i64 t848, .int .i64 0, .slice none 0 0]) ?_ 1 _ rfl; (with_reducible repeat (first | refine blk_drewN ?_ _ | refine blk_drew ?_ | refine blk_alloc ?_ _)); refine blk_put (cs := #[.int .i64 0, .int .i64 0, .slice none 0 0]) ?_ 0 _ rfl; (with_reducible repeat (first | refine blk_drewN ?_ _ | refine blk_drew ?_ | refine blk_alloc ?_ _)); exact BK835.out) Try.underlying25 rfl (by kernel_rfl) .nil)))) rfl ?_
                    exact ⟨_, _, _, by first | rfl | (simp [errW_none, errW_some] <;> rfl) | (simp [*, errW_none, errW_some] <;> rfl), by (with_reducible repeat (first | apply Kd.R_alloc | apply Kd.R_drewN | apply Kd.R_drew)); exact Kd.R_mono (Kd.R_far (p := ⟨gb835, 2, none⟩) (Kd.R_far (p := ⟨gb835, 1, none⟩) (Kd.R_far (p := ⟨gb835, 0, none⟩) (Kd.R_types HO856.out BK835.out (by decide)) (fun _ hk => hk.2) (.int .i64 t848)) (fun _ hk => hk.2) (.int .i64 t849)) (fun _ hk => hk.2) (.slice Ao32 t850.length co32)) (fun _ hk => ⟨hk.1.1, hk.1.2⟩), by (with_reducible repeat (first | apply Kd.R_alloc | apply Kd.R_drewN | apply Kd.R_drew)); exact Kd.R_mono (Kd.R_far (p := ⟨gb835, 2, none⟩) (Kd.R_far (p := ⟨gb835, 1, none⟩) (Kd.R_far (p := ⟨gb835, 0, none⟩) (Kd.R_types HO868.out BK835.out (by decide)) (fun _ hk => hk.2) (.int .i64 t848)) (fun _ hk => hk.2) (.int .i64 t849)) (fun _ hk => hk.2) (.slice Ao32 t850.length co32)) (fun _ hk => ⟨hk.1.1, hk.1.2⟩), by (with_reducible repeat (first | apply Kd.N_alloc | apply Kd.N_drewN | apply Kd.N_drew)); exact Kd.N_mono (Kd.N_far (p := ⟨gb835, 2, none⟩) (Kd.N_far (p := ⟨gb835, 1, none⟩) (Kd.N_far (p := ⟨gb835, 0, none⟩) (Kd.N_mono HO852.out (fun k_ hk => (⟨hk, hk.1.2.2.2.1⟩ : _ ∧ k_ ≠ gb835))) (fun _ hk => hk.2) (.int .i64 t848)) (fun _ hk => hk.2) (.int .i64 t849)) (fun _ hk => hk.2) (.slice Ao32 t850.length co32)) (fun _ hk => ⟨hk.1.1.1, ⟨hk.1.1.2.2.1, hk.1.2⟩⟩), by repeat (first | (with_reducible first | exact HI0.out | apply IsS99.alloc | apply IsS99.drewN | apply IsS99.drew | apply IsS99.set_1 | refine IsS99.far ?_ NB0_835.out _ | refine IsS99.far ?_ NB0_853.out _) | exact HI0.out), by repeat (first | (with_reducible first | exact HB.out | apply below_alloc | apply pw_below_drewN | apply below_drew1 | refine below_set ?_ (IsS99.ge HI0.out) | refine below_set ?_ GE835.out | refine below_set ?_ GE853.out) | exact HB.out), by repeat (first | (with_reducible first | exact HK.out | apply KeepBut.set_ | apply keep_drewN | apply keep_drew | apply keep_alloc | refine keep_far ?_ GW835.out _ | refine keep_far ?_ GW853.out _) | exact HK.out)⟩
                  · rw [if_neg c24] at H
                    exact absurd H (by simp)
                · rw [if_neg c23] at H
                  have c23b0 : (t864 == 0) = false := beq_eq_false_iff_ne.mpr c23
                  have c23b1 : (t864 != 0) = true := bne_iff_ne.mpr c23
                  by_cases c43 : t864 = 1
                  · rw [if_pos c43] at H
                    have c43b0 : (t864 == 1) = true := beq_iff_eq.mpr c43
                    have c43b1 : (t864 != 1) = false := bne_eq_false_iff_eq.mpr c43
                    clear c43
                    obtain ⟨y869, hy869⟩ : ∃ y_ : List Int, y_ = (([0, (-1), t849, wrap64 (t849 - 1), 4611686018427387904] : List Int)) := ⟨_, rfl⟩
                    replace H : ((spec_l1Pick.f s0_0 t865 y869).bind fun bt872 => (some (t854, y861, bt872.1, t849, t850, bt872.2))) = some (r1, r2, r3, r4, r5, r6) := by first | (rw [hy869]; with_reducible exact H) | (have H2_ := (Option.bind_some _ _).symm.trans H; rw [hy869]; with_reducible exact H2_) | (have H2_ := (Option.bind_some _ _).symm.trans H; with_reducible exact H2_) | with_reducible exact H | (rw [hy869]; exact H) | exact H
                    have Ny869 := Aside0.mk hy869
                    clear hy869
                    replace H := Option.bind_eq_some_iff.mp H
                    obtain ⟨⟨t872, t873⟩, A440, H⟩ := H
                    replace H : (some (t854, y861, t872, t849, t850, t873)) = some (r1, r2, r3, r4, r5, r6) := H
                    have A44 := Aside0.mk A440
                    clear A440
                    simp only [Option.some.injEq, Prod.mk.injEq] at H
                    obtain ⟨rfl, rfl, rfl, rfl, rfl, rfl⟩ := H
                    have hcz58_0 : w37.cell? ⟨gb853, 0, none⟩ = some (.int .i64 t848) := (blk_cell BK853.out 0).trans (by first | rfl | (simp only [*] <;> rfl))
                    have hcz58_1 : w37.cell? ⟨gb853, 1, none⟩ = some (.int .i64 t849) := (blk_cell BK853.out 1).trans (by first | rfl | (simp only [*] <;> rfl))
                    have hcz58_2 : w37.cell? ⟨gb853, 2, none⟩ = some (.slice Ao32 t850.length co32) := (blk_cell BK853.out 2).trans (by first | rfl | (simp only [*] <;> rfl))
                    have hfz58_0 := blk_frozen BK853.out 0
                    have hfz58_1 := blk_frozen BK853.out 1
                    have hfz58_2 := blk_frozen BK853.out 2
                    try go_wp2_with (first | ((with_reducible refine gate_dst (N := 52) rfl ?_); (try (refine gate_guard (by rfl) ?_; dsimp only)); refine Kd.R_lit (Kd.int .i64) _ 2 ?hg (N := 52) ?hd (xs := ([0, (-1), t849, wrap64 (t849 - 1), 4611686018427387904] : List Int)) (inner := [.int .i64 0, .int .i64 (-1), .int .i64 t849, .int .i64 (wrap64 (t849 - 1)), .int .i64 4611686018427387904]) (ok := fun _ => True) (okp := fun _ => True) ?hr ?hp (fun _ hk => hk) trivial (Below.refl _ _) (Nat.le_refl _) (by simp) ?_; (case hd => rfl); (case hg => rfl); (case hr => first | (go_simp; done) | (go_simp; rfl)); (case hp => exact (Reps.one (show Kd.M (Kd.int .i64) _ _ _ 0 [.int .i64 0] from rfl) (Reps.one (show Kd.M (Kd.int .i64) _ _ _ (-1) [.int .i64 (-1)] from rfl) (Reps.one (show Kd.M (Kd.int .i64) _ _ _ t849 [.int .i64 t849] from rfl) (Reps.one (show Kd.M (Kd.int .i64) _ _ _ (wrap64 (t849 - 1)) [.int .i64 (wrap64 (t849 - 1))] from rfl) (Reps.one (show Kd.M (Kd.int .i64) _ _ _ 4611686018427387904 [.int .i64 4611686018427387904] from rfl) (Reps.none _ _))))))); intro v870 w59 ho60 hb hg_ hnew_; clear hg_ hnew_; (first | rw [← Ny869.out] at ho60 | (simp only [Int.reduceToNat] at ho60; rw [← Ny869.out] at ho60)); have n0_ := Aside0.mk (Kd.N_elder' (by (with_reducible repeat (first | apply Kd.N_alloc | apply Kd.N_drewN | apply Kd.N_drew)); exact HO_5.out) (Kd.R_base ho60) hb); have n1_ := Aside0.mk (Kd.N_elder' (by (with_reducible repeat (first | apply Kd.N_alloc | apply Kd.N_drewN | apply Kd.N_drew)); exact HO852.out) (Kd.R_base ho60) hb); have n2_ := Aside0.mk (Kd.R_below (by (with_reducible repeat (first | apply Kd.R_alloc | apply Kd.R_drewN | apply Kd.R_drew)); exact HO856.out) hb); have n3_ := Aside0.mk (Kd.V_elder' (by (with_reducible repeat (first | apply Kd.V_alloc | apply Kd.V_drewN | apply Kd.V_drew)); exact HL860_0.out) (Kd.R_base ho60) hb); have n4_ := Aside0.mk (Kd.R_below (by (with_reducible repeat (first | apply Kd.R_alloc | apply Kd.R_drewN | apply Kd.R_drew)); exact HO863.out) hb); have n5_ := Aside0.mk (Kd.R_lower (Kd.R_newM (M := fun k_ => (w.heap.size ≤ k_)) ho60 (keep_size (w := w) (g := g) (row := none) (by repeat (first | (with_reducible first | exact HK.out | apply KeepBut.set_ | apply keep_drewN | apply keep_drew | apply keep_alloc | refine keep_far ?_ GW835.out _ | refine keep_far ?_ GW853.out _) | exact HK.out))) (fun k_ h_ => h_)) (keep_size (w := w) (g := g) (row := none) (by repeat (first | (with_reducible first | exact HK.out | apply KeepBut.set_ | apply keep_drewN | apply keep_drew | apply keep_alloc | refine keep_far ?_ GW835.out _ | refine keep_far ?_ GW853.out _) | exact HK.out)))); have n6_ := Aside0.mk (blk_below (g := gb835) (o := .cells #[.int .i64 0, .int .i64 0, .slice none 0 0] 25 (0, 0)) (by (with_reducible repeat (first | refine blk_drewN ?_ _ | refine blk_drew ?_ | refine blk_alloc ?_ _)); exact BK835.out) hb); have n7_ := Aside0.mk (IsS99.below (by repeat (first | (with_reducible first | exact HI0.out | apply IsS99.alloc | apply IsS99.drewN | apply IsS99.drew | apply IsS99.set_1 | refine IsS99.far ?_ NB0_835.out _ | refine IsS99.far ?_ NB0_853.out _) | exact HI0.out)) hb); have n8_ := Aside0.mk (blk_below (g := gb853) (o := .cells #[.int .i64 t848, .int .i64 t849, .slice Ao32 t850.length co32] 25 (0, 0)) (by (with_reducible repeat (first | refine blk_drewN ?_ _ | refine blk_drew ?_ | refine blk_alloc ?_ _)); exact BK853.out) hb); have n9_ := Aside0.mk (KeepBut.trans (by repeat (first | (with_reducible first | exact HK.out | apply KeepBut.set_ | apply keep_drewN | apply keep_drew | apply keep_alloc | refine keep_far ?_ GW835.out _ | refine keep_far ?_ GW853.out _) | exact HK.out)) (KeepBut.of_below hb g none) (.inl rfl)); have n10_ := Aside0.mk (below_step (by repeat (first | (with_reducible first | exact HB.out | apply below_alloc | apply pw_below_drewN | apply below_drew1 | refine below_set ?_ (IsS99.ge HI0.out) | refine below_set ?_ GE835.out | refine below_set ?_ GE853.out) | exact HB.out)) hb); clear HO_5; clear HO852; clear HO856; clear HL860_0; clear HO863; clear BK835; clear HI0; clear BK853; clear HK; clear HB; have HO_5 := n0_; have HO852 := n1_; have HO856 := n2_; have HL860_0 := n3_; have HO863 := n4_; have HO871 := n5_; have BK835 := n6_; have HI0 := n7_; have BK853 := n8_; have HK := n9_; have HB := n10_; clear n0_ n1_ n2_ n3_ n4_ n5_ n6_ n7_ n8_ n9_ n10_; clear hb ho60; obtain ⟨Ao61, co61, eo61⟩ := Kd.R_slice HO871.out; subst eo61) | ((with_reducible refine gate_callee (f := 84) rfl ?_); refine goesL_ (some 53) rfl rfl Try.func84 (by kernel_rfl) rfl #[.pointer (some ⟨g, 0, none⟩), .slice Ao61 y869.length co61] rfl (by (try simp only [List.map_toArray, List.map_cons, List.map_nil]); first | done | rfl | (simp only [List.length_drop, List.length_take]; rfl)) ?_; (with_reducible refine (spec_l1Pick.calls g s0_0 t865 _ _ y869 t872 t873 w0 _ ?side1 ?side2 ?side3 ?side4 ?side5 A44.out).mono ?_); (case side1 => repeat (first | (with_reducible first | exact HI0.out | apply IsS99.alloc | apply IsS99.drewN | apply IsS99.drew | apply IsS99.set_1 | refine IsS99.far ?_ NB0_835.out _ | refine IsS99.far ?_ NB0_853.out _) | exact HI0.out)); (case side2 => repeat (first | (with_reducible first | exact HB.out | apply below_alloc | apply pw_below_drewN | apply below_drew1 | refine below_set ?_ (IsS99.ge HI0.out) | refine below_set ?_ GE835.out | refine below_set ?_ GE853.out) | exact HB.out)); (case side3 => repeat (first | exact (Kd.R_reads' HO871.out).2.2 | (with_reducible refine Kd.C_alloc ?_ _) | (with_reducible refine Kd.C_drewN ?_ _) | (with_reducible refine Kd.C_drew ?_))); (case side4 => exact (Kd.R_reads' HO871.out).2.1); (case side5 => exact far_slice (IsS99.own_ne HI0.out HO871.out (by decide))); rintro e w62 ⟨rfl, hi, hb, hk⟩; refine ⟨_, rfl, ?_⟩; have n0_ := Aside0.mk (Kd.N_mono (Kd.N_keep (Kd.N_mono (ok := fun k_ => (((((w.heap.size ≤ k_)) ∧ (some k_ ≠ (.slice Ao32 t850.length co32 : Value).ownBlock ∧ (some k_ ≠ (v855 : Value).ownBlock ∧ (k_ ≠ gb835 ∧ (k_ ≠ g ∧ k_ ≠ gb853))))) ∧ some k_ ≠ (v862 : Value).ownBlock) ∧ some k_ ≠ (.slice Ao61 y869.length co61 : Value).ownBlock)) (by (with_reducible repeat (first | apply Kd.N_alloc | apply Kd.N_drewN | apply Kd.N_drew)); exact HO_5.out) (fun k_ hk_ => (⟨hk_, hk_.1.1.2.2.2.2.1⟩ : _ ∧ k_ ≠ g))) hk (fun _ h => h.2)) (fun _ h => h.1)); have n1_ := Aside0.mk (KeepBut.blk hk (g' := gb835) (o := .cells #[.int .i64 0, .int .i64 0, .slice none 0 0] 25 (0, 0)) (by (with_reducible repeat (first | refine blk_drewN ?_ _ | refine blk_drew ?_ | refine blk_alloc ?_ _)); exact BK835.out) NB835_0.out (by simp)); have n2_ := Aside0.mk (Kd.N_mono (Kd.N_keep (Kd.N_mono (ok := fun k_ => (((((w.heap.size ≤ k_)) ∧ (some k_ ≠ (.slice (some ad860) x5_8.length co25 : Value).ownBlock ∧ (some k_ ≠ (v855 : Value).ownBlock ∧ (k_ ≠ gb835 ∧ (k_ ≠ g ∧ k_ ≠ gb853))))) ∧ some k_ ≠ (v862 : Value).ownBlock) ∧ some k_ ≠ (.slice Ao61 y869.length co61 : Value).ownBlock)) (by (with_reducible repeat (first | apply Kd.N_alloc | apply Kd.N_drewN | apply Kd.N_drew)); exact HO852.out) (fun k_ hk_ => (⟨hk_, hk_.1.1.2.2.2.2.1⟩ : _ ∧ k_ ≠ g))) hk (fun _ h => h.2)) (fun _ h => h.1)); have n3_ := Aside0.mk (KeepBut.blk hk (g' := gb853) (o := .cells #[.int .i64 t848, .int .i64 t849, .slice Ao32 t850.length co32] 25 (0, 0)) (by (with_reducible repeat (first | refine blk_drewN ?_ _ | refine blk_drew ?_ | refine blk_alloc ?_ _)); exact BK853.out) NB853_0.out (by simp)); have n4_ := Aside0.mk (Kd.R_mono (Kd.R_keep (IsS99.apart (show IsS99 w0 _ g s0_0 t865 from by repeat (first | (with_reducible first | exact HI0.out | apply IsS99.alloc | apply IsS99.drewN | apply IsS99.drew | apply IsS99.set_1 | refine IsS99.far ?_ NB0_835.out _ | refine IsS99.far ?_ NB0_853.out _) | exact HI0.out)) (by (with_reducible repeat (first | apply Kd.R_alloc | apply Kd.R_drewN | apply Kd.R_drew)); exact HO856.out) (by decide)) hk (fun _ h => h.2)) (fun _ h => h.1)); have n5_ := Aside0.mk (Kd.V_mono (Kd.V_keep (Kd.V_mono (ok := fun k_ => (((((w.heap.size ≤ k_)) ∧ (some k_ ≠ (.slice (some ad860) x5_8.length co25 : Value).ownBlock ∧ (some k_ ≠ (.slice Ao32 t850.length co32 : Value).ownBlock ∧ (some k_ ≠ (v855 : Value).ownBlock ∧ (k_ ≠ gb835 ∧ (k_ ≠ g ∧ k_ ≠ gb853)))))) ∧ some k_ ≠ (v862 : Value).ownBlock) ∧ some k_ ≠ (.slice Ao61 y869.length co61 : Value).ownBlock)) (by (with_reducible repeat (first | apply Kd.V_alloc | apply Kd.V_drewN | apply Kd.V_drew)); exact HL860_0.out) (fun k_ hk_ => (⟨hk_, hk_.1.1.2.2.2.2.2.1⟩ : _ ∧ k_ ≠ g))) hk (fun _ h => h.2)) (fun _ h => h.1)); have n6_ := Aside0.mk (Kd.R_mono (Kd.R_keep (IsS99.apart (show IsS99 w0 _ g s0_0 t865 from by repeat (first | (with_reducible first | exact HI0.out | apply IsS99.alloc | apply IsS99.drewN | apply IsS99.drew | apply IsS99.set_1 | refine IsS99.far ?_ NB0_835.out _ | refine IsS99.far ?_ NB0_853.out _) | exact HI0.out)) (by (with_reducible repeat (first | apply Kd.R_alloc | apply Kd.R_drewN | apply Kd.R_drew)); exact HO863.out) (by decide)) hk (fun _ h => h.2)) (fun _ h => h.1)); have n7_ := Aside0.mk (Kd.R_mono (Kd.R_keep (IsS99.apart (show IsS99 w0 _ g s0_0 t865 from by repeat (first | (with_reducible first | exact HI0.out | apply IsS99.alloc | apply IsS99.drewN | apply IsS99.drew | apply IsS99.set_1 | refine IsS99.far ?_ NB0_835.out _ | refine IsS99.far ?_ NB0_853.out _) | exact HI0.out)) (by (with_reducible repeat (first | apply Kd.R_alloc | apply Kd.R_drewN | apply Kd.R_drew)); exact HO871.out) (by decide)) hk (fun _ h => h.2)) (fun _ h => h.1)); have n8_ := Aside0.mk (KeepBut.trans (by repeat (first | (with_reducible first | exact HK.out | apply KeepBut.set_ | apply keep_drewN | apply keep_drew | apply keep_alloc | refine keep_far ?_ GW835.out _ | refine keep_far ?_ GW853.out _) | exact HK.out)) hk (.inl rfl)); have n9_ := Aside0.mk (hb); have n10_ := Aside0.mk (hi); clear HO_5; clear BK835; clear HO852; clear BK853; clear HO856; clear HL860_0; clear HO863; clear HO871; clear HK; clear HB; clear HI0; have HO_5 := n0_; have BK835 := n1_; have HO852 := n2_; have BK853 := n3_; have HO856 := n4_; have HL860_0 := n5_; have HO863 := n6_; have HO871 := n7_; have HK := n8_; have HB := n9_; have HI0 := n10_; clear n0_ n1_ n2_ n3_ n4_ n5_ n6_ n7_ n8_ n9_ n10_; (try clear hb); (try clear hb2); (try clear hk); (try clear hi); have hcz63_0 : w62.cell? ⟨gb853, 0, none⟩ = some (.int .i64 t848) := (blk_cell BK853.out 0).trans (by first | rfl | (simp only [*] <;> rfl)); have hcz63_1 : w62.cell? ⟨gb853, 1, none⟩ = some (.int .i64 t849) := (blk_cell BK853.out 1).trans (by first | rfl | (simp only [*] <;> rfl)); have hcz63_2 : w62.cell? ⟨gb853, 2, none⟩ = some (.slice Ao32 t850.length co32) := (blk_cell BK853.out 2).trans (by first | rfl | (simp only [*] <;> rfl)); have hfz63_0 := blk_frozen BK853.out 0; have hfz63_1 := blk_frozen BK853.out 1; have hfz63_2 := blk_frozen BK853.out 2))
                    have n0_ : Aside0 (Kd.N (Kd.slice 5 (Kd.int .u8)) 22 (w62.setCell ⟨gb853, 0, none⟩ (.int .i64 t872)) w.heap.size (fun k_ => (w.heap.size ≤ k_) ∧ some k_ ≠ (.slice Ao32 t850.length co32 : Value).ownBlock ∧ some k_ ≠ (v855 : Value).ownBlock ∧ some k_ ≠ (v862 : Value).ownBlock ∧ some k_ ≠ (.slice Ao61 y869.length co61 : Value).ownBlock ∧ k_ ≠ gb835 ∧ k_ ≠ g ∧ k_ ≠ gb853) (.slice (some ad860) x5_8.length co25) x5_8) := ⟨by (with_reducible repeat (first | apply Kd.N_alloc | apply Kd.N_drewN | apply Kd.N_drew)); exact Kd.N_mono (Kd.N_far (p := ⟨gb853, 0, none⟩) (Kd.N_mono HO_5.out (fun k_ hk => (⟨hk, hk.1.1.2.2.2.2.2⟩ : _ ∧ k_ ≠ gb853))) (fun _ hk => hk.2) (.int .i64 t872)) (fun _ hk => ⟨hk.1.1.1.1, ⟨hk.1.1.1.2.1, ⟨hk.1.1.1.2.2.1, ⟨hk.1.1.2, ⟨hk.1.2, ⟨hk.1.1.1.2.2.2.1, ⟨hk.1.1.1.2.2.2.2.1, hk.1.1.1.2.2.2.2.2⟩⟩⟩⟩⟩⟩⟩)⟩
                    have n1_ : Aside0 (Kd.N (Kd.slice 5 (Kd.int .u8)) 22 (w62.setCell ⟨gb853, 0, none⟩ (.int .i64 t872)) w.heap.size (fun k_ => (w.heap.size ≤ k_) ∧ some k_ ≠ (.slice (some ad860) x5_8.length co25 : Value).ownBlock ∧ some k_ ≠ (v855 : Value).ownBlock ∧ some k_ ≠ (v862 : Value).ownBlock ∧ some k_ ≠ (.slice Ao61 y869.length co61 : Value).ownBlock ∧ k_ ≠ gb835 ∧ k_ ≠ g ∧ k_ ≠ gb853) (.slice Ao32 t850.length co32) t850) := ⟨by (with_reducible repeat (first | apply Kd.N_alloc | apply Kd.N_drewN | apply Kd.N_drew)); exact Kd.N_mono (Kd.N_far (p := ⟨gb853, 0, none⟩) (Kd.N_mono HO852.out (fun k_ hk => (⟨hk, hk.1.1.2.2.2.2.2⟩ : _ ∧ k_ ≠ gb853))) (fun _ hk => hk.2) (.int .i64 t872)) (fun _ hk => ⟨hk.1.1.1.1, ⟨hk.1.1.1.2.1, ⟨hk.1.1.1.2.2.1, ⟨hk.1.1.2, ⟨hk.1.2, ⟨hk.1.1.1.2.2.2.1, ⟨hk.1.1.1.2.2.2.2.1, hk.1.1.1.2.2.2.2.2⟩⟩⟩⟩⟩⟩⟩)⟩
                    have n2_ : Aside0 (Kd.R (Kd.int .u8) 5 (w62.setCell ⟨gb853, 0, none⟩ (.int .i64 t872)) w.heap.size (fun k_ => (w.heap.size ≤ k_) ∧ some k_ ≠ (v862 : Value).ownBlock) v855 t854) := ⟨by (with_reducible repeat (first | apply Kd.R_alloc | apply Kd.R_drewN | apply Kd.R_drew)); exact Kd.R_mono (Kd.R_far (p := ⟨gb853, 0, none⟩) (Kd.R_types HO856.out BK853.out (by decide)) (fun _ hk => hk.2) (.int .i64 t872)) (fun _ hk => ⟨hk.1.1, hk.1.2⟩)⟩
                    have n3_ : Aside0 (Kd.V (Kd.int .u8) 5 (w62.setCell ⟨gb853, 0, none⟩ (.int .i64 t872)) w.heap.size (fun k_ => (w.heap.size ≤ k_) ∧ some k_ ≠ (.slice (some ad860) x5_8.length co25 : Value).ownBlock ∧ some k_ ≠ (.slice Ao32 t850.length co32 : Value).ownBlock ∧ some k_ ≠ (v855 : Value).ownBlock ∧ some k_ ≠ (v862 : Value).ownBlock ∧ some k_ ≠ (.slice Ao61 y869.length co61 : Value).ownBlock ∧ k_ ≠ gb835 ∧ k_ ≠ g ∧ k_ ≠ gb853) (.slice A860_0 (rd_L1 x5_8 t846).length c860_0) (rd_L1 x5_8 t846)) := ⟨by (with_reducible repeat (first | apply Kd.V_alloc | apply Kd.V_drewN | apply Kd.V_drew)); exact Kd.V_mono (Kd.V_far (p := ⟨gb853, 0, none⟩) (Kd.V_mono HL860_0.out (fun k_ hk => (⟨hk, hk.1.1.2.2.2.2.2.2⟩ : _ ∧ k_ ≠ gb853))) (fun _ hk => hk.2) (.int .i64 t872)) (fun _ hk => ⟨hk.1.1.1.1, ⟨hk.1.1.1.2.1, ⟨hk.1.1.1.2.2.1, ⟨hk.1.1.1.2.2.2.1, ⟨hk.1.1.2, ⟨hk.1.2, ⟨hk.1.1.1.2.2.2.2.1, ⟨hk.1.1.1.2.2.2.2.2.1, hk.1.1.1.2.2.2.2.2.2⟩⟩⟩⟩⟩⟩⟩⟩)⟩
                    have n4_ : Aside0 (Kd.R (Kd.int .u8) 5 (w62.setCell ⟨gb853, 0, none⟩ (.int .i64 t872)) w.heap.size (fun k_ => (w.heap.size ≤ k_) ∧ some k_ ≠ (v855 : Value).ownBlock) v862 y861) := ⟨by (with_reducible repeat (first | apply Kd.R_alloc | apply Kd.R_drewN | apply Kd.R_drew)); exact Kd.R_mono (Kd.R_far (p := ⟨gb853, 0, none⟩) (Kd.R_types HO863.out BK853.out (by decide)) (fun _ hk => hk.2) (.int .i64 t872)) (fun _ hk => ⟨hk.1.1, hk.1.2⟩)⟩
                    have n5_ : Aside0 (Kd.R (Kd.int .i64) 2 (w62.setCell ⟨gb853, 0, none⟩ (.int .i64 t872)) w.heap.size (fun k_ => (w.heap.size ≤ k_)) (.slice Ao61 y869.length co61) y869) := ⟨by (with_reducible repeat (first | apply Kd.R_alloc | apply Kd.R_drewN | apply Kd.R_drew)); exact Kd.R_mono (Kd.R_far (p := ⟨gb853, 0, none⟩) (Kd.R_types HO871.out BK853.out (by decide)) (fun _ hk => hk.2) (.int .i64 t872)) (fun _ hk => hk.1.1)⟩
                    have n6_ : Aside0 ((w62.setCell ⟨gb853, 0, none⟩ (.int .i64 t872)).heap[gb835]? = some (.cells #[.int .i64 0, .int .i64 0, .slice none 0 0] 25 (0, 0))) := ⟨by (with_reducible repeat (first | refine blk_drewN ?_ _ | refine blk_drew ?_ | refine blk_alloc ?_ _)); refine blk_far ?_ NB835_853.out _; (with_reducible repeat (first | refine blk_drewN ?_ _ | refine blk_drew ?_ | refine blk_alloc ?_ _)); exact BK835.out⟩
                    have n7_ : Aside0 ((w62.setCell ⟨gb853, 0, none⟩ (.int .i64 t872)).heap[gb853]? = some (.cells #[.int .i64 t872, .int .i64 t849, .slice Ao32 t850.length co32] 25 (0, 0))) := ⟨by (with_reducible repeat (first | refine blk_drewN ?_ _ | refine blk_drew ?_ | refine blk_alloc ?_ _)); refine blk_put (cs := #[.int .i64 t848, .int .i64 t849, .slice Ao32 t850.length co32]) ?_ 0 _ rfl; (with_reducible repeat (first | refine blk_drewN ?_ _ | refine blk_drew ?_ | refine blk_alloc ?_ _)); exact BK853.out⟩
                    have n8_ : Aside0 (IsS99 w0 (w62.setCell ⟨gb853, 0, none⟩ (.int .i64 t872)) g s0_0 t873) := ⟨by repeat (first | (with_reducible first | exact HI0.out | apply IsS99.alloc | apply IsS99.drewN | apply IsS99.drew | apply IsS99.set_1 | refine IsS99.far ?_ NB0_835.out _ | refine IsS99.far ?_ NB0_853.out _) | exact HI0.out)⟩
                    have n9_ : Aside0 (KeepBut w (w62.setCell ⟨gb853, 0, none⟩ (.int .i64 t872)) g none) := ⟨by repeat (first | (with_reducible first | exact HK.out | apply KeepBut.set_ | apply keep_drewN | apply keep_drew | apply keep_alloc | refine keep_far ?_ GW835.out _ | refine keep_far ?_ GW853.out _) | exact HK.out)⟩
                    have n10_ : Aside0 (Below w0.heap.size w0 (w62.setCell ⟨gb853, 0, none⟩ (.int .i64 t872))) := ⟨by repeat (first | (with_reducible first | exact HB.out | apply below_alloc | apply pw_below_drewN | apply below_drew1 | refine below_set ?_ (IsS99.ge HI0.out) | refine below_set ?_ GE835.out | refine below_set ?_ GE853.out) | exact HB.out)⟩
                    (try clear HO_5)
                    (try clear HO852)
                    (try clear HO856)
                    (try clear HL860_0)
                    (try clear HO863)
                    (try clear HO871)
                    (try clear BK835)
                    (try clear BK853)
                    (try clear HI0)
                    (try clear HK)
                    (try clear HB)
                    generalize (w62.setCell ⟨gb853, 0, none⟩ (.int .i64 t872)) = w64 at n0_ n1_ n2_ n3_ n4_ n5_ n6_ n7_ n8_ n9_ n10_ ⊢
                    have HO_5 := n0_
                    have HO852 := n1_
                    have HO856 := n2_
                    have HL860_0 := n3_
                    have HO863 := n4_
                    have HO871 := n5_
                    have BK835 := n6_
                    have BK853 := n7_
                    have HI0 := n8_
                    have HK := n9_
                    have HB := n10_
                    clear n0_ n1_ n2_ n3_ n4_ n5_ n6_ n7_ n8_ n9_ n10_
                    have n0_ := Aside0.mk (Kd.N_drew HO_5.out)
                    have n1_ := Aside0.mk (Kd.N_drew HO852.out)
                    have n2_ := Aside0.mk (Kd.R_drew HO856.out)
                    have n3_ := Aside0.mk (Kd.V_drew HL860_0.out)
                    have n4_ := Aside0.mk (Kd.R_drew HO863.out)
                    have n5_ := Aside0.mk (Kd.R_drew HO871.out)
                    have n6_ := Aside0.mk (blk_drew BK835.out)
                    have n7_ := Aside0.mk (blk_drew BK853.out)
                    have n8_ := Aside0.mk (IsS99.drew HI0.out)
                    have n9_ := Aside0.mk (keep_drew HK.out)
                    have n10_ := Aside0.mk (below_drew1 HB.out)
                    clear HO_5
                    clear HO852
                    clear HO856
                    clear HL860_0
                    clear HO863
                    clear HO871
                    clear BK835
                    clear BK853
                    clear HI0
                    clear HK
                    clear HB
                    have HO_5 := n0_
                    have HO852 := n1_
                    have HO856 := n2_
                    have HL860_0 := n3_
                    have HO863 := n4_
                    have HO871 := n5_
                    have BK835 := n6_
                    have BK853 := n7_
                    have HI0 := n8_
                    have HK := n9_
                    have HB := n10_
                    clear n0_ n1_ n2_ n3_ n4_ n5_ n6_ n7_ n8_ n9_ n10_
                    refine start_ (n := 6) (S := fun w' => w'.cell? ⟨gb853, 0, none⟩ = some (.int .i64 t872) ∧ w'.cell? ⟨gb853, 1, none⟩ = some (.int .i64 t849) ∧ w'.cell? ⟨gb853, 2, none⟩ = some (.slice Ao32 t850.length co32)) (ds := []) #[false, false, false, false, false, false] (by kernel_rfl) rfl rfl ⟨(blk_cell BK853.out 0).trans (by first | rfl | (simp only [*] <;> rfl)), (blk_cell BK853.out 1).trans (by first | rfl | (simp only [*] <;> rfl)), (blk_cell BK853.out 2).trans (by first | rfl | (simp only [*] <;> rfl))⟩ (fun hHeld => ?_)
                    generalize w64.drew = w65 at HO_5 HO852 HO856 HL860_0 HO863 HO871 BK835 BK853 HI0 HK HB hHeld ⊢
                    refine pure_ (i := 0) (N := some 94) (v := ?_) (a' := ?_) #[true, false, false, false, false, false] rfl rfl (by kernel_rfl) (fun _ _ _ h => h) (Or.inl ⟨by rfl, ?_⟩) ?_ ?_
                    rotate_left
                    · intro w'
                      go_simp
                      with_reducible rfl
                    rotate_left
                    · simp only [Act.put, List.setIfInBounds_toArray, List.set_cons_zero, List.set_cons_succ, i64_w, i32_w]
                      rfl
                    refine pure_ (i := 1) (N := some 95) (v := ?_) (a' := ?_) #[true, true, false, false, false, false] rfl rfl (by kernel_rfl) (fun _ _ _ h => h) (Or.inl ⟨by rfl, ?_⟩) ?_ ?_
                    rotate_left
                    · intro w'
                      go_simp
                      with_reducible rfl
                    rotate_left
                    · simp only [Act.put, List.setIfInBounds_toArray, List.set_cons_zero, List.set_cons_succ, i64_w, i32_w]
                      rfl
                    refine pure_ (i := 3) (N := some 2) (v := ?_) (a' := ?_) #[true, true, false, true, false, false] rfl rfl (by kernel_rfl) (fun _ _ _ h => h) (Or.inl ⟨by rfl, ?_⟩) ?_ ?_
                    rotate_left
                    · intro w'
                      go_simp
                      with_reducible rfl
                    rotate_left
                    · simp only [Act.put, List.setIfInBounds_toArray, List.set_cons_zero, List.set_cons_succ, i64_w, i32_w]
                      rfl
                    refine pure_ (i := 4) (N := some 3) (v := ?_) (a' := ?_) #[true, true, false, true, true, false] rfl rfl (by kernel_rfl) (fun _ _ _ h => h) (Or.inl ⟨by rfl, ?_⟩) ?_ ?_
                    rotate_left
                    · intro w'
                      go_simp
                      with_reducible rfl
                    rotate_left
                    · simp only [Act.put, List.setIfInBounds_toArray, List.set_cons_zero, List.set_cons_succ, i64_w, i32_w]
                      rfl
                    refine take_ (i := 2) (N := some 96) (v := ?_) (a' := ?_) #[true, true, true, true, true, false] rfl rfl (by kernel_rfl) (fun _ _ _ h => h) (Or.inl ⟨by rfl, ?_⟩) hHeld ?_ ?_
                    rotate_left
                    · rintro w' ⟨s0, s1, s2⟩
                      go_simp
                      with_reducible rfl
                    rotate_left
                    · simp only [Act.put, List.setIfInBounds_toArray, List.set_cons_zero, List.set_cons_succ, i64_w, i32_w]
                      rfl
                    refine one_ (i := 5) (N := none) #[true, true, true, true, true, true] rfl rfl (by kernel_rfl) (by decide) (fun K hK => ?_)
                    have hs66 : w65.cell? ⟨gb835, 0, none⟩ = some (.int .i64 0) := (blk_cell BK835.out 0).trans (by first | rfl | (simp only [*] <;> rfl))
                    have hfs66 := blk_frozen BK835.out 0
                    have hns66_1 := NB853_835.out
                    have hms66_1 := NB835_853.out
                    have hs67 : w65.cell? ⟨gb835, 1, none⟩ = some (.int .i64 0) := (blk_cell BK835.out 1).trans (by first | rfl | (simp only [*] <;> rfl))
                    have hfs67 := blk_frozen BK835.out 1
                    have hns67_1 := NB853_835.out
                    have hms67_1 := NB835_853.out
                    have hs68 : w65.cell? ⟨gb835, 2, none⟩ = some (.slice none 0 0) := (blk_cell BK835.out 2).trans (by first | rfl | (simp only [*] <;> rfl))
                    have hfs68 := blk_frozen BK835.out 2
                    have hns68_1 := NB853_835.out
                    have hms68_1 := NB835_853.out
                    refine skip_ (w1 := ?_) (by rfl) rfl ?_ ?_
                    rotate_left
                    · go_simp
                      rfl
                    refine hK.out _ _ ⟨((cell_far (p := ⟨gb835, _, none⟩) NB853_835.out _).trans (((cell_far (p := ⟨gb835, _, none⟩) NB853_835.out _).trans (((cell_far (p := ⟨gb835, _, none⟩) NB853_835.out _).trans (hHeld.1)))))), ((cell_far (p := ⟨gb835, _, none⟩) NB853_835.out _).trans (((cell_far (p := ⟨gb835, _, none⟩) NB853_835.out _).trans (((cell_far (p := ⟨gb835, _, none⟩) NB853_835.out _).trans (hHeld.2.1)))))), ((cell_far (p := ⟨gb835, _, none⟩) NB853_835.out _).trans (((cell_far (p := ⟨gb835, _, none⟩) NB853_835.out _).trans (((cell_far (p := ⟨gb835, _, none⟩) NB853_835.out _).trans (hHeld.2.2))))))⟩ (fun hHeld => ?_)
                    clear hK K
                    refine done_ (by kernel_rfl) ?_
                    try go_wp2
                    refine bodyPost_ret (results_list (rs := [.tmp 2, .tmp 3, .cell 4 25]) rfl (by simp) (.tmp (.tmp (.cell gb835 25 #[.int .i64 t872, .int .i64 t849, .slice Ao32 t850.length co32] (0, 0) _ rfl (by (with_reducible repeat (first | refine blk_drewN ?_ _ | refine blk_drew ?_ | refine blk_alloc ?_ _)); refine blk_put (cs := #[.int .i64 t872, .int .i64 t849, .slice none 0 0]) ?_ 2 _ rfl; (with_reducible repeat (first | refine blk_drewN ?_ _ | refine blk_drew ?_ | refine blk_alloc ?_ _)); refine blk_put (cs := #[.int .i64 t872, .int .i64 0, .slice none 0 0]) ?_ 1 _ rfl; (with_reducible repeat (first | refine blk_drewN ?_ _ | refine blk_drew ?_ | refine blk_alloc ?_ _)); refine blk_put (cs := #[.int .i64 0, .int .i64 0, .slice none 0 0]) ?_ 0 _ rfl; (with_reducible repeat (first | refine blk_drewN ?_ _ | refine blk_drew ?_ | refine blk_alloc ?_ _)); exact BK835.out) Try.underlying25 rfl (by kernel_rfl) .nil)))) rfl ?_
                    exact ⟨_, _, _, by first | rfl | (simp [errW_none, errW_some] <;> rfl) | (simp [*, errW_none, errW_some] <;> rfl), by (with_reducible repeat (first | apply Kd.R_alloc | apply Kd.R_drewN | apply Kd.R_drew)); exact Kd.R_mono (Kd.R_far (p := ⟨gb835, 2, none⟩) (Kd.R_far (p := ⟨gb835, 1, none⟩) (Kd.R_far (p := ⟨gb835, 0, none⟩) (Kd.R_types HO856.out BK835.out (by decide)) (fun _ hk => hk.2) (.int .i64 t872)) (fun _ hk => hk.2) (.int .i64 t849)) (fun _ hk => hk.2) (.slice Ao32 t850.length co32)) (fun _ hk => ⟨hk.1.1, hk.1.2⟩), by (with_reducible repeat (first | apply Kd.R_alloc | apply Kd.R_drewN | apply Kd.R_drew)); exact Kd.R_mono (Kd.R_far (p := ⟨gb835, 2, none⟩) (Kd.R_far (p := ⟨gb835, 1, none⟩) (Kd.R_far (p := ⟨gb835, 0, none⟩) (Kd.R_types HO863.out BK835.out (by decide)) (fun _ hk => hk.2) (.int .i64 t872)) (fun _ hk => hk.2) (.int .i64 t849)) (fun _ hk => hk.2) (.slice Ao32 t850.length co32)) (fun _ hk => ⟨hk.1.1, hk.1.2⟩), by (with_reducible repeat (first | apply Kd.N_alloc | apply Kd.N_drewN | apply Kd.N_drew)); exact Kd.N_mono (Kd.N_far (p := ⟨gb835, 2, none⟩) (Kd.N_far (p := ⟨gb835, 1, none⟩) (Kd.N_far (p := ⟨gb835, 0, none⟩) (Kd.N_mono HO852.out (fun k_ hk => (⟨hk, hk.2.2.2.2.2.1⟩ : _ ∧ k_ ≠ gb835))) (fun _ hk => hk.2) (.int .i64 t872)) (fun _ hk => hk.2) (.int .i64 t849)) (fun _ hk => hk.2) (.slice Ao32 t850.length co32)) (fun _ hk => ⟨hk.1.1, ⟨hk.1.2.2.1, hk.1.2.2.2.1⟩⟩), by repeat (first | (with_reducible first | exact HI0.out | apply IsS99.alloc | apply IsS99.drewN | apply IsS99.drew | apply IsS99.set_1 | refine IsS99.far ?_ NB0_835.out _ | refine IsS99.far ?_ NB0_853.out _) | exact HI0.out), by repeat (first | (with_reducible first | exact HB.out | apply below_alloc | apply pw_below_drewN | apply below_drew1 | refine below_set ?_ (IsS99.ge HI0.out) | refine below_set ?_ GE835.out | refine below_set ?_ GE853.out) | exact HB.out), by repeat (first | (with_reducible first | exact HK.out | apply KeepBut.set_ | apply keep_drewN | apply keep_drew | apply keep_alloc | refine keep_far ?_ GW835.out _ | refine keep_far ?_ GW853.out _) | exact HK.out)⟩
                  · rw [if_neg c43] at H
                    have c43b0 : (t864 == 1) = false := beq_eq_false_iff_ne.mpr c43
                    have c43b1 : (t864 != 1) = true := bne_iff_ne.mpr c43
                    by_cases c69 : t864 = 2
                    · rw [if_pos c69] at H
                      have c69b0 : (t864 == 2) = true := beq_iff_eq.mpr c69
                      have c69b1 : (t864 != 2) = false := bne_eq_false_iff_eq.mpr c69
                      clear c69
                      obtain ⟨y874, hy874⟩ : ∃ y_ : List Int, y_ = (([wrap64 (t849 + 1), 0, 17, wrap64 (t849 - 1)] : List Int)) := ⟨_, rfl⟩
                      replace H : ((spec_l1Pick.f s0_0 t865 y874).bind fun bt877 => (some (t854, y861, t848, bt877.1, t850, bt877.2))) = some (r1, r2, r3, r4, r5, r6) := by first | (rw [hy874]; with_reducible exact H) | (have H2_ := (Option.bind_some _ _).symm.trans H; rw [hy874]; with_reducible exact H2_) | (have H2_ := (Option.bind_some _ _).symm.trans H; with_reducible exact H2_) | with_reducible exact H | (rw [hy874]; exact H) | exact H
                      have Ny874 := Aside0.mk hy874
                      clear hy874
                      replace H := Option.bind_eq_some_iff.mp H
                      obtain ⟨⟨t877, t878⟩, A700, H⟩ := H
                      replace H : (some (t854, y861, t848, t877, t850, t878)) = some (r1, r2, r3, r4, r5, r6) := H
                      have A70 := Aside0.mk A700
                      clear A700
                      simp only [Option.some.injEq, Prod.mk.injEq] at H
                      obtain ⟨rfl, rfl, rfl, rfl, rfl, rfl⟩ := H
                      have hcz84_0 : w37.cell? ⟨gb853, 0, none⟩ = some (.int .i64 t848) := (blk_cell BK853.out 0).trans (by first | rfl | (simp only [*] <;> rfl))
                      have hcz84_1 : w37.cell? ⟨gb853, 1, none⟩ = some (.int .i64 t849) := (blk_cell BK853.out 1).trans (by first | rfl | (simp only [*] <;> rfl))
                      have hcz84_2 : w37.cell? ⟨gb853, 2, none⟩ = some (.slice Ao32 t850.length co32) := (blk_cell BK853.out 2).trans (by first | rfl | (simp only [*] <;> rfl))
                      have hfz84_0 := blk_frozen BK853.out 0
                      have hfz84_1 := blk_frozen BK853.out 1
                      have hfz84_2 := blk_frozen BK853.out 2
                      try go_wp2_with (first | ((with_reducible refine gate_dst (N := 64) rfl ?_); (try (refine gate_guard (by rfl) ?_; dsimp only)); refine Kd.R_lit (Kd.int .i64) _ 2 ?hg (N := 64) ?hd (xs := ([wrap64 (t849 + 1), 0, 17, wrap64 (t849 - 1)] : List Int)) (inner := [.int .i64 (wrap64 (t849 + 1)), .int .i64 0, .int .i64 17, .int .i64 (wrap64 (t849 - 1))]) (ok := fun _ => True) (okp := fun _ => True) ?hr ?hp (fun _ hk => hk) trivial (Below.refl _ _) (Nat.le_refl _) (by simp) ?_; (case hd => rfl); (case hg => rfl); (case hr => first | (go_simp; done) | (go_simp; rfl)); (case hp => exact (Reps.one (show Kd.M (Kd.int .i64) _ _ _ (wrap64 (t849 + 1)) [.int .i64 (wrap64 (t849 + 1))] from rfl) (Reps.one (show Kd.M (Kd.int .i64) _ _ _ 0 [.int .i64 0] from rfl) (Reps.one (show Kd.M (Kd.int .i64) _ _ _ 17 [.int .i64 17] from rfl) (Reps.one (show Kd.M (Kd.int .i64) _ _ _ (wrap64 (t849 - 1)) [.int .i64 (wrap64 (t849 - 1))] from rfl) (Reps.none _ _)))))); intro v875 w85 ho86 hb hg_ hnew_; clear hg_ hnew_; (first | rw [← Ny874.out] at ho86 | (simp only [Int.reduceToNat] at ho86; rw [← Ny874.out] at ho86)); have n0_ := Aside0.mk (Kd.N_elder' (by (with_reducible repeat (first | apply Kd.N_alloc | apply Kd.N_drewN | apply Kd.N_drew)); exact HO_5.out) (Kd.R_base ho86) hb); have n1_ := Aside0.mk (Kd.N_elder' (by (with_reducible repeat (first | apply Kd.N_alloc | apply Kd.N_drewN | apply Kd.N_drew)); exact HO852.out) (Kd.R_base ho86) hb); have n2_ := Aside0.mk (Kd.R_below (by (with_reducible repeat (first | apply Kd.R_alloc | apply Kd.R_drewN | apply Kd.R_drew)); exact HO856.out) hb); have n3_ := Aside0.mk (Kd.V_elder' (by (with_reducible repeat (first | apply Kd.V_alloc | apply Kd.V_drewN | apply Kd.V_drew)); exact HL860_0.out) (Kd.R_base ho86) hb); have n4_ := Aside0.mk (Kd.R_below (by (with_reducible repeat (first | apply Kd.R_alloc | apply Kd.R_drewN | apply Kd.R_drew)); exact HO863.out) hb); have n5_ := Aside0.mk (Kd.R_lower (Kd.R_newM (M := fun k_ => (w.heap.size ≤ k_)) ho86 (keep_size (w := w) (g := g) (row := none) (by repeat (first | (with_reducible first | exact HK.out | apply KeepBut.set_ | apply keep_drewN | apply keep_drew | apply keep_alloc | refine keep_far ?_ GW835.out _ | refine keep_far ?_ GW853.out _) | exact HK.out))) (fun k_ h_ => h_)) (keep_size (w := w) (g := g) (row := none) (by repeat (first | (with_reducible first | exact HK.out | apply KeepBut.set_ | apply keep_drewN | apply keep_drew | apply keep_alloc | refine keep_far ?_ GW835.out _ | refine keep_far ?_ GW853.out _) | exact HK.out)))); have n6_ := Aside0.mk (blk_below (g := gb835) (o := .cells #[.int .i64 0, .int .i64 0, .slice none 0 0] 25 (0, 0)) (by (with_reducible repeat (first | refine blk_drewN ?_ _ | refine blk_drew ?_ | refine blk_alloc ?_ _)); exact BK835.out) hb); have n7_ := Aside0.mk (IsS99.below (by repeat (first | (with_reducible first | exact HI0.out | apply IsS99.alloc | apply IsS99.drewN | apply IsS99.drew | apply IsS99.set_1 | refine IsS99.far ?_ NB0_835.out _ | refine IsS99.far ?_ NB0_853.out _) | exact HI0.out)) hb); have n8_ := Aside0.mk (blk_below (g := gb853) (o := .cells #[.int .i64 t848, .int .i64 t849, .slice Ao32 t850.length co32] 25 (0, 0)) (by (with_reducible repeat (first | refine blk_drewN ?_ _ | refine blk_drew ?_ | refine blk_alloc ?_ _)); exact BK853.out) hb); have n9_ := Aside0.mk (KeepBut.trans (by repeat (first | (with_reducible first | exact HK.out | apply KeepBut.set_ | apply keep_drewN | apply keep_drew | apply keep_alloc | refine keep_far ?_ GW835.out _ | refine keep_far ?_ GW853.out _) | exact HK.out)) (KeepBut.of_below hb g none) (.inl rfl)); have n10_ := Aside0.mk (below_step (by repeat (first | (with_reducible first | exact HB.out | apply below_alloc | apply pw_below_drewN | apply below_drew1 | refine below_set ?_ (IsS99.ge HI0.out) | refine below_set ?_ GE835.out | refine below_set ?_ GE853.out) | exact HB.out)) hb); clear HO_5; clear HO852; clear HO856; clear HL860_0; clear HO863; clear BK835; clear HI0; clear BK853; clear HK; clear HB; have HO_5 := n0_; have HO852 := n1_; have HO856 := n2_; have HL860_0 := n3_; have HO863 := n4_; have HO876 := n5_; have BK835 := n6_; have HI0 := n7_; have BK853 := n8_; have HK := n9_; have HB := n10_; clear n0_ n1_ n2_ n3_ n4_ n5_ n6_ n7_ n8_ n9_ n10_; clear hb ho86; obtain ⟨Ao87, co87, eo87⟩ := Kd.R_slice HO876.out; subst eo87) | ((with_reducible refine gate_callee (f := 84) rfl ?_); refine goesL_ (some 65) rfl rfl Try.func84 (by kernel_rfl) rfl #[.pointer (some ⟨g, 0, none⟩), .slice Ao87 y874.length co87] rfl (by (try simp only [List.map_toArray, List.map_cons, List.map_nil]); first | done | rfl | (simp only [List.length_drop, List.length_take]; rfl)) ?_; (with_reducible refine (spec_l1Pick.calls g s0_0 t865 _ _ y874 t877 t878 w0 _ ?side1 ?side2 ?side3 ?side4 ?side5 A70.out).mono ?_); (case side1 => repeat (first | (with_reducible first | exact HI0.out | apply IsS99.alloc | apply IsS99.drewN | apply IsS99.drew | apply IsS99.set_1 | refine IsS99.far ?_ NB0_835.out _ | refine IsS99.far ?_ NB0_853.out _) | exact HI0.out)); (case side2 => repeat (first | (with_reducible first | exact HB.out | apply below_alloc | apply pw_below_drewN | apply below_drew1 | refine below_set ?_ (IsS99.ge HI0.out) | refine below_set ?_ GE835.out | refine below_set ?_ GE853.out) | exact HB.out)); (case side3 => repeat (first | exact (Kd.R_reads' HO876.out).2.2 | (with_reducible refine Kd.C_alloc ?_ _) | (with_reducible refine Kd.C_drewN ?_ _) | (with_reducible refine Kd.C_drew ?_))); (case side4 => exact (Kd.R_reads' HO876.out).2.1); (case side5 => exact far_slice (IsS99.own_ne HI0.out HO876.out (by decide))); rintro e w88 ⟨rfl, hi, hb, hk⟩; refine ⟨_, rfl, ?_⟩; have n0_ := Aside0.mk (Kd.N_mono (Kd.N_keep (Kd.N_mono (ok := fun k_ => (((((w.heap.size ≤ k_)) ∧ (some k_ ≠ (.slice Ao32 t850.length co32 : Value).ownBlock ∧ (some k_ ≠ (v855 : Value).ownBlock ∧ (k_ ≠ gb835 ∧ (k_ ≠ g ∧ k_ ≠ gb853))))) ∧ some k_ ≠ (v862 : Value).ownBlock) ∧ some k_ ≠ (.slice Ao87 y874.length co87 : Value).ownBlock)) (by (with_reducible repeat (first | apply Kd.N_alloc | apply Kd.N_drewN | apply Kd.N_drew)); exact HO_5.out) (fun k_ hk_ => (⟨hk_, hk_.1.1.2.2.2.2.1⟩ : _ ∧ k_ ≠ g))) hk (fun _ h => h.2)) (fun _ h => h.1)); have n1_ := Aside0.mk (KeepBut.blk hk (g' := gb835) (o := .cells #[.int .i64 0, .int .i64 0, .slice none 0 0] 25 (0, 0)) (by (with_reducible repeat (first | refine blk_drewN ?_ _ | refine blk_drew ?_ | refine blk_alloc ?_ _)); exact BK835.out) NB835_0.out (by simp)); have n2_ := Aside0.mk (Kd.N_mono (Kd.N_keep (Kd.N_mono (ok := fun k_ => (((((w.heap.size ≤ k_)) ∧ (some k_ ≠ (.slice (some ad860) x5_8.length co25 : Value).ownBlock ∧ (some k_ ≠ (v855 : Value).ownBlock ∧ (k_ ≠ gb835 ∧ (k_ ≠ g ∧ k_ ≠ gb853))))) ∧ some k_ ≠ (v862 : Value).ownBlock) ∧ some k_ ≠ (.slice Ao87 y874.length co87 : Value).ownBlock)) (by (with_reducible repeat (first | apply Kd.N_alloc | apply Kd.N_drewN | apply Kd.N_drew)); exact HO852.out) (fun k_ hk_ => (⟨hk_, hk_.1.1.2.2.2.2.1⟩ : _ ∧ k_ ≠ g))) hk (fun _ h => h.2)) (fun _ h => h.1)); have n3_ := Aside0.mk (KeepBut.blk hk (g' := gb853) (o := .cells #[.int .i64 t848, .int .i64 t849, .slice Ao32 t850.length co32] 25 (0, 0)) (by (with_reducible repeat (first | refine blk_drewN ?_ _ | refine blk_drew ?_ | refine blk_alloc ?_ _)); exact BK853.out) NB853_0.out (by simp)); have n4_ := Aside0.mk (Kd.R_mono (Kd.R_keep (IsS99.apart (show IsS99 w0 _ g s0_0 t865 from by repeat (first | (with_reducible first | exact HI0.out | apply IsS99.alloc | apply IsS99.drewN | apply IsS99.drew | apply IsS99.set_1 | refine IsS99.far ?_ NB0_835.out _ | refine IsS99.far ?_ NB0_853.out _) | exact HI0.out)) (by (with_reducible repeat (first | apply Kd.R_alloc | apply Kd.R_drewN | apply Kd.R_drew)); exact HO856.out) (by decide)) hk (fun _ h => h.2)) (fun _ h => h.1)); have n5_ := Aside0.mk (Kd.V_mono (Kd.V_keep (Kd.V_mono (ok := fun k_ => (((((w.heap.size ≤ k_)) ∧ (some k_ ≠ (.slice (some ad860) x5_8.length co25 : Value).ownBlock ∧ (some k_ ≠ (.slice Ao32 t850.length co32 : Value).ownBlock ∧ (some k_ ≠ (v855 : Value).ownBlock ∧ (k_ ≠ gb835 ∧ (k_ ≠ g ∧ k_ ≠ gb853)))))) ∧ some k_ ≠ (v862 : Value).ownBlock) ∧ some k_ ≠ (.slice Ao87 y874.length co87 : Value).ownBlock)) (by (with_reducible repeat (first | apply Kd.V_alloc | apply Kd.V_drewN | apply Kd.V_drew)); exact HL860_0.out) (fun k_ hk_ => (⟨hk_, hk_.1.1.2.2.2.2.2.1⟩ : _ ∧ k_ ≠ g))) hk (fun _ h => h.2)) (fun _ h => h.1)); have n6_ := Aside0.mk (Kd.R_mono (Kd.R_keep (IsS99.apart (show IsS99 w0 _ g s0_0 t865 from by repeat (first | (with_reducible first | exact HI0.out | apply IsS99.alloc | apply IsS99.drewN | apply IsS99.drew | apply IsS99.set_1 | refine IsS99.far ?_ NB0_835.out _ | refine IsS99.far ?_ NB0_853.out _) | exact HI0.out)) (by (with_reducible repeat (first | apply Kd.R_alloc | apply Kd.R_drewN | apply Kd.R_drew)); exact HO863.out) (by decide)) hk (fun _ h => h.2)) (fun _ h => h.1)); have n7_ := Aside0.mk (Kd.R_mono (Kd.R_keep (IsS99.apart (show IsS99 w0 _ g s0_0 t865 from by repeat (first | (with_reducible first | exact HI0.out | apply IsS99.alloc | apply IsS99.drewN | apply IsS99.drew | apply IsS99.set_1 | refine IsS99.far ?_ NB0_835.out _ | refine IsS99.far ?_ NB0_853.out _) | exact HI0.out)) (by (with_reducible repeat (first | apply Kd.R_alloc | apply Kd.R_drewN | apply Kd.R_drew)); exact HO876.out) (by decide)) hk (fun _ h => h.2)) (fun _ h => h.1)); have n8_ := Aside0.mk (KeepBut.trans (by repeat (first | (with_reducible first | exact HK.out | apply KeepBut.set_ | apply keep_drewN | apply keep_drew | apply keep_alloc | refine keep_far ?_ GW835.out _ | refine keep_far ?_ GW853.out _) | exact HK.out)) hk (.inl rfl)); have n9_ := Aside0.mk (hb); have n10_ := Aside0.mk (hi); clear HO_5; clear BK835; clear HO852; clear BK853; clear HO856; clear HL860_0; clear HO863; clear HO876; clear HK; clear HB; clear HI0; have HO_5 := n0_; have BK835 := n1_; have HO852 := n2_; have BK853 := n3_; have HO856 := n4_; have HL860_0 := n5_; have HO863 := n6_; have HO876 := n7_; have HK := n8_; have HB := n9_; have HI0 := n10_; clear n0_ n1_ n2_ n3_ n4_ n5_ n6_ n7_ n8_ n9_ n10_; (try clear hb); (try clear hb2); (try clear hk); (try clear hi); have hcz89_0 : w88.cell? ⟨gb853, 0, none⟩ = some (.int .i64 t848) := (blk_cell BK853.out 0).trans (by first | rfl | (simp only [*] <;> rfl)); have hcz89_1 : w88.cell? ⟨gb853, 1, none⟩ = some (.int .i64 t849) := (blk_cell BK853.out 1).trans (by first | rfl | (simp only [*] <;> rfl)); have hcz89_2 : w88.cell? ⟨gb853, 2, none⟩ = some (.slice Ao32 t850.length co32) := (blk_cell BK853.out 2).trans (by first | rfl | (simp only [*] <;> rfl)); have hfz89_0 := blk_frozen BK853.out 0; have hfz89_1 := blk_frozen BK853.out 1; have hfz89_2 := blk_frozen BK853.out 2))
                      have n0_ : Aside0 (Kd.N (Kd.slice 5 (Kd.int .u8)) 22 (w88.setCell ⟨gb853, 1, none⟩ (.int .i64 t877)) w.heap.size (fun k_ => (w.heap.size ≤ k_) ∧ some k_ ≠ (.slice Ao32 t850.length co32 : Value).ownBlock ∧ some k_ ≠ (v855 : Value).ownBlock ∧ some k_ ≠ (v862 : Value).ownBlock ∧ some k_ ≠ (.slice Ao87 y874.length co87 : Value).ownBlock ∧ k_ ≠ gb835 ∧ k_ ≠ g ∧ k_ ≠ gb853) (.slice (some ad860) x5_8.length co25) x5_8) := ⟨by (with_reducible repeat (first | apply Kd.N_alloc | apply Kd.N_drewN | apply Kd.N_drew)); exact Kd.N_mono (Kd.N_far (p := ⟨gb853, 1, none⟩) (Kd.N_mono HO_5.out (fun k_ hk => (⟨hk, hk.1.1.2.2.2.2.2⟩ : _ ∧ k_ ≠ gb853))) (fun _ hk => hk.2) (.int .i64 t877)) (fun _ hk => ⟨hk.1.1.1.1, ⟨hk.1.1.1.2.1, ⟨hk.1.1.1.2.2.1, ⟨hk.1.1.2, ⟨hk.1.2, ⟨hk.1.1.1.2.2.2.1, ⟨hk.1.1.1.2.2.2.2.1, hk.1.1.1.2.2.2.2.2⟩⟩⟩⟩⟩⟩⟩)⟩
                      have n1_ : Aside0 (Kd.N (Kd.slice 5 (Kd.int .u8)) 22 (w88.setCell ⟨gb853, 1, none⟩ (.int .i64 t877)) w.heap.size (fun k_ => (w.heap.size ≤ k_) ∧ some k_ ≠ (.slice (some ad860) x5_8.length co25 : Value).ownBlock ∧ some k_ ≠ (v855 : Value).ownBlock ∧ some k_ ≠ (v862 : Value).ownBlock ∧ some k_ ≠ (.slice Ao87 y874.length co87 : Value).ownBlock ∧ k_ ≠ gb835 ∧ k_ ≠ g ∧ k_ ≠ gb853) (.slice Ao32 t850.length co32) t850) := ⟨by (with_reducible repeat (first | apply Kd.N_alloc | apply Kd.N_drewN | apply Kd.N_drew)); exact Kd.N_mono (Kd.N_far (p := ⟨gb853, 1, none⟩) (Kd.N_mono HO852.out (fun k_ hk => (⟨hk, hk.1.1.2.2.2.2.2⟩ : _ ∧ k_ ≠ gb853))) (fun _ hk => hk.2) (.int .i64 t877)) (fun _ hk => ⟨hk.1.1.1.1, ⟨hk.1.1.1.2.1, ⟨hk.1.1.1.2.2.1, ⟨hk.1.1.2, ⟨hk.1.2, ⟨hk.1.1.1.2.2.2.1, ⟨hk.1.1.1.2.2.2.2.1, hk.1.1.1.2.2.2.2.2⟩⟩⟩⟩⟩⟩⟩)⟩
                      have n2_ : Aside0 (Kd.R (Kd.int .u8) 5 (w88.setCell ⟨gb853, 1, none⟩ (.int .i64 t877)) w.heap.size (fun k_ => (w.heap.size ≤ k_) ∧ some k_ ≠ (v862 : Value).ownBlock) v855 t854) := ⟨by (with_reducible repeat (first | apply Kd.R_alloc | apply Kd.R_drewN | apply Kd.R_drew)); exact Kd.R_mono (Kd.R_far (p := ⟨gb853, 1, none⟩) (Kd.R_types HO856.out BK853.out (by decide)) (fun _ hk => hk.2) (.int .i64 t877)) (fun _ hk => ⟨hk.1.1, hk.1.2⟩)⟩
                      have n3_ : Aside0 (Kd.V (Kd.int .u8) 5 (w88.setCell ⟨gb853, 1, none⟩ (.int .i64 t877)) w.heap.size (fun k_ => (w.heap.size ≤ k_) ∧ some k_ ≠ (.slice (some ad860) x5_8.length co25 : Value).ownBlock ∧ some k_ ≠ (.slice Ao32 t850.length co32 : Value).ownBlock ∧ some k_ ≠ (v855 : Value).ownBlock ∧ some k_ ≠ (v862 : Value).ownBlock ∧ some k_ ≠ (.slice Ao87 y874.length co87 : Value).ownBlock ∧ k_ ≠ gb835 ∧ k_ ≠ g ∧ k_ ≠ gb853) (.slice A860_0 (rd_L1 x5_8 t846).length c860_0) (rd_L1 x5_8 t846)) := ⟨by (with_reducible repeat (first | apply Kd.V_alloc | apply Kd.V_drewN | apply Kd.V_drew)); exact Kd.V_mono (Kd.V_far (p := ⟨gb853, 1, none⟩) (Kd.V_mono HL860_0.out (fun k_ hk => (⟨hk, hk.1.1.2.2.2.2.2.2⟩ : _ ∧ k_ ≠ gb853))) (fun _ hk => hk.2) (.int .i64 t877)) (fun _ hk => ⟨hk.1.1.1.1, ⟨hk.1.1.1.2.1, ⟨hk.1.1.1.2.2.1, ⟨hk.1.1.1.2.2.2.1, ⟨hk.1.1.2, ⟨hk.1.2, ⟨hk.1.1.1.2.2.2.2.1, ⟨hk.1.1.1.2.2.2.2.2.1, hk.1.1.1.2.2.2.2.2.2⟩⟩⟩⟩⟩⟩⟩⟩)⟩
                      have n4_ : Aside0 (Kd.R (Kd.int .u8) 5 (w88.setCell ⟨gb853, 1, none⟩ (.int .i64 t877)) w.heap.size (fun k_ => (w.heap.size ≤ k_) ∧ some k_ ≠ (v855 : Value).ownBlock) v862 y861) := ⟨by (with_reducible repeat (first | apply Kd.R_alloc | apply Kd.R_drewN | apply Kd.R_drew)); exact Kd.R_mono (Kd.R_far (p := ⟨gb853, 1, none⟩) (Kd.R_types HO863.out BK853.out (by decide)) (fun _ hk => hk.2) (.int .i64 t877)) (fun _ hk => ⟨hk.1.1, hk.1.2⟩)⟩
                      have n5_ : Aside0 (Kd.R (Kd.int .i64) 2 (w88.setCell ⟨gb853, 1, none⟩ (.int .i64 t877)) w.heap.size (fun k_ => (w.heap.size ≤ k_)) (.slice Ao87 y874.length co87) y874) := ⟨by (with_reducible repeat (first | apply Kd.R_alloc | apply Kd.R_drewN | apply Kd.R_drew)); exact Kd.R_mono (Kd.R_far (p := ⟨gb853, 1, none⟩) (Kd.R_types HO876.out BK853.out (by decide)) (fun _ hk => hk.2) (.int .i64 t877)) (fun _ hk => hk.1.1)⟩
                      have n6_ : Aside0 ((w88.setCell ⟨gb853, 1, none⟩ (.int .i64 t877)).heap[gb835]? = some (.cells #[.int .i64 0, .int .i64 0, .slice none 0 0] 25 (0, 0))) := ⟨by (with_reducible repeat (first | refine blk_drewN ?_ _ | refine blk_drew ?_ | refine blk_alloc ?_ _)); refine blk_far ?_ NB835_853.out _; (with_reducible repeat (first | refine blk_drewN ?_ _ | refine blk_drew ?_ | refine blk_alloc ?_ _)); exact BK835.out⟩
                      have n7_ : Aside0 ((w88.setCell ⟨gb853, 1, none⟩ (.int .i64 t877)).heap[gb853]? = some (.cells #[.int .i64 t848, .int .i64 t877, .slice Ao32 t850.length co32] 25 (0, 0))) := ⟨by (with_reducible repeat (first | refine blk_drewN ?_ _ | refine blk_drew ?_ | refine blk_alloc ?_ _)); refine blk_put (cs := #[.int .i64 t848, .int .i64 t849, .slice Ao32 t850.length co32]) ?_ 1 _ rfl; (with_reducible repeat (first | refine blk_drewN ?_ _ | refine blk_drew ?_ | refine blk_alloc ?_ _)); exact BK853.out⟩
                      have n8_ : Aside0 (IsS99 w0 (w88.setCell ⟨gb853, 1, none⟩ (.int .i64 t877)) g s0_0 t878) := ⟨by repeat (first | (with_reducible first | exact HI0.out | apply IsS99.alloc | apply IsS99.drewN | apply IsS99.drew | apply IsS99.set_1 | refine IsS99.far ?_ NB0_835.out _ | refine IsS99.far ?_ NB0_853.out _) | exact HI0.out)⟩
                      have n9_ : Aside0 (KeepBut w (w88.setCell ⟨gb853, 1, none⟩ (.int .i64 t877)) g none) := ⟨by repeat (first | (with_reducible first | exact HK.out | apply KeepBut.set_ | apply keep_drewN | apply keep_drew | apply keep_alloc | refine keep_far ?_ GW835.out _ | refine keep_far ?_ GW853.out _) | exact HK.out)⟩
                      have n10_ : Aside0 (Below w0.heap.size w0 (w88.setCell ⟨gb853, 1, none⟩ (.int .i64 t877))) := ⟨by repeat (first | (with_reducible first | exact HB.out | apply below_alloc | apply pw_below_drewN | apply below_drew1 | refine below_set ?_ (IsS99.ge HI0.out) | refine below_set ?_ GE835.out | refine below_set ?_ GE853.out) | exact HB.out)⟩
                      (try clear HO_5)
                      (try clear HO852)
                      (try clear HO856)
                      (try clear HL860_0)
                      (try clear HO863)
                      (try clear HO876)
                      (try clear BK835)
                      (try clear BK853)
                      (try clear HI0)
                      (try clear HK)
                      (try clear HB)
                      generalize (w88.setCell ⟨gb853, 1, none⟩ (.int .i64 t877)) = w90 at n0_ n1_ n2_ n3_ n4_ n5_ n6_ n7_ n8_ n9_ n10_ ⊢
                      have HO_5 := n0_
                      have HO852 := n1_
                      have HO856 := n2_
                      have HL860_0 := n3_
                      have HO863 := n4_
                      have HO876 := n5_
                      have BK835 := n6_
                      have BK853 := n7_
                      have HI0 := n8_
                      have HK := n9_
                      have HB := n10_
                      clear n0_ n1_ n2_ n3_ n4_ n5_ n6_ n7_ n8_ n9_ n10_
                      have n0_ := Aside0.mk (Kd.N_drew HO_5.out)
                      have n1_ := Aside0.mk (Kd.N_drew HO852.out)
                      have n2_ := Aside0.mk (Kd.R_drew HO856.out)
                      have n3_ := Aside0.mk (Kd.V_drew HL860_0.out)
                      have n4_ := Aside0.mk (Kd.R_drew HO863.out)
                      have n5_ := Aside0.mk (Kd.R_drew HO876.out)
                      have n6_ := Aside0.mk (blk_drew BK835.out)
                      have n7_ := Aside0.mk (blk_drew BK853.out)
                      have n8_ := Aside0.mk (IsS99.drew HI0.out)
                      have n9_ := Aside0.mk (keep_drew HK.out)
                      have n10_ := Aside0.mk (below_drew1 HB.out)
                      clear HO_5
                      clear HO852
                      clear HO856
                      clear HL860_0
                      clear HO863
                      clear HO876
                      clear BK835
                      clear BK853
                      clear HI0
                      clear HK
                      clear HB
                      have HO_5 := n0_
                      have HO852 := n1_
                      have HO856 := n2_
                      have HL860_0 := n3_
                      have HO863 := n4_
                      have HO876 := n5_
                      have BK835 := n6_
                      have BK853 := n7_
                      have HI0 := n8_
                      have HK := n9_
                      have HB := n10_
                      clear n0_ n1_ n2_ n3_ n4_ n5_ n6_ n7_ n8_ n9_ n10_
                      refine start_ (n := 6) (S := fun w' => w'.cell? ⟨gb853, 0, none⟩ = some (.int .i64 t848) ∧ w'.cell? ⟨gb853, 1, none⟩ = some (.int .i64 t877) ∧ w'.cell? ⟨gb853, 2, none⟩ = some (.slice Ao32 t850.length co32)) (ds := []) #[false, false, false, false, false, false] (by kernel_rfl) rfl rfl ⟨(blk_cell BK853.out 0).trans (by first | rfl | (simp only [*] <;> rfl)), (blk_cell BK853.out 1).trans (by first | rfl | (simp only [*] <;> rfl)), (blk_cell BK853.out 2).trans (by first | rfl | (simp only [*] <;> rfl))⟩ (fun hHeld => ?_)
                      generalize w90.drew = w91 at HO_5 HO852 HO856 HL860_0 HO863 HO876 BK835 BK853 HI0 HK HB hHeld ⊢
                      refine pure_ (i := 0) (N := some 94) (v := ?_) (a' := ?_) #[true, false, false, false, false, false] rfl rfl (by kernel_rfl) (fun _ _ _ h => h) (Or.inl ⟨by rfl, ?_⟩) ?_ ?_
                      rotate_left
                      · intro w'
                        go_simp
                        with_reducible rfl
                      rotate_left
                      · simp only [Act.put, List.setIfInBounds_toArray, List.set_cons_zero, List.set_cons_succ, i64_w, i32_w]
                        rfl
                      refine pure_ (i := 1) (N := some 95) (v := ?_) (a' := ?_) #[true, true, false, false, false, false] rfl rfl (by kernel_rfl) (fun _ _ _ h => h) (Or.inl ⟨by rfl, ?_⟩) ?_ ?_
                      rotate_left
                      · intro w'
                        go_simp
                        with_reducible rfl
                      rotate_left
                      · simp only [Act.put, List.setIfInBounds_toArray, List.set_cons_zero, List.set_cons_succ, i64_w, i32_w]
                        rfl
                      refine pure_ (i := 3) (N := some 2) (v := ?_) (a' := ?_) #[true, true, false, true, false, false] rfl rfl (by kernel_rfl) (fun _ _ _ h => h) (Or.inl ⟨by rfl, ?_⟩) ?_ ?_
                      rotate_left
                      · intro w'
                        go_simp
                        with_reducible rfl
                      rotate_left
                      · simp only [Act.put, List.setIfInBounds_toArray, List.set_cons_zero, List.set_cons_succ, i64_w, i32_w]
                        rfl
                      refine pure_ (i := 4) (N := some 3) (v := ?_) (a' := ?_) #[true, true, false, true, true, false] rfl rfl (by kernel_rfl) (fun _ _ _ h => h) (Or.inl ⟨by rfl, ?_⟩) ?_ ?_
                      rotate_left
                      · intro w'
                        go_simp
                        with_reducible rfl
                      rotate_left
                      · simp only [Act.put, List.setIfInBounds_toArray, List.set_cons_zero, List.set_cons_succ, i64_w, i32_w]
                        rfl
                      refine take_ (i := 2) (N := some 96) (v := ?_) (a' := ?_) #[true, true, true, true, true, false] rfl rfl (by kernel_rfl) (fun _ _ _ h => h) (Or.inl ⟨by rfl, ?_⟩) hHeld ?_ ?_
                      rotate_left
                      · rintro w' ⟨s0, s1, s2⟩
                        go_simp
                        with_reducible rfl
                      rotate_left
                      · simp only [Act.put, List.setIfInBounds_toArray, List.set_cons_zero, List.set_cons_succ, i64_w, i32_w]
                        rfl
                      refine one_ (i := 5) (N := none) #[true, true, true, true, true, true] rfl rfl (by kernel_rfl) (by decide) (fun K hK => ?_)
                      have hs92 : w91.cell? ⟨gb835, 0, none⟩ = some (.int .i64 0) := (blk_cell BK835.out 0).trans (by first | rfl | (simp only [*] <;> rfl))
                      have hfs92 := blk_frozen BK835.out 0
                      have hns92_1 := NB853_835.out
                      have hms92_1 := NB835_853.out
                      have hs93 : w91.cell? ⟨gb835, 1, none⟩ = some (.int .i64 0) := (blk_cell BK835.out 1).trans (by first | rfl | (simp only [*] <;> rfl))
                      have hfs93 := blk_frozen BK835.out 1
                      have hns93_1 := NB853_835.out
                      have hms93_1 := NB835_853.out
                      have hs94 : w91.cell? ⟨gb835, 2, none⟩ = some (.slice none 0 0) := (blk_cell BK835.out 2).trans (by first | rfl | (simp only [*] <;> rfl))
                      have hfs94 := blk_frozen BK835.out 2
                      have hns94_1 := NB853_835.out
                      have hms94_1 := NB835_853.out
                      refine skip_ (w1 := ?_) (by rfl) rfl ?_ ?_
                      rotate_left
                      · go_simp
                        rfl
                      refine hK.out _ _ ⟨((cell_far (p := ⟨gb835, _, none⟩) NB853_835.out _).trans (((cell_far (p := ⟨gb835, _, none⟩) NB853_835.out _).trans (((cell_far (p := ⟨gb835, _, none⟩) NB853_835.out _).trans (hHeld.1)))))), ((cell_far (p := ⟨gb835, _, none⟩) NB853_835.out _).trans (((cell_far (p := ⟨gb835, _, none⟩) NB853_835.out _).trans (((cell_far (p := ⟨gb835, _, none⟩) NB853_835.out _).trans (hHeld.2.1)))))), ((cell_far (p := ⟨gb835, _, none⟩) NB853_835.out _).trans (((cell_far (p := ⟨gb835, _, none⟩) NB853_835.out _).trans (((cell_far (p := ⟨gb835, _, none⟩) NB853_835.out _).trans (hHeld.2.2))))))⟩ (fun hHeld => ?_)
                      clear hK K
                      refine done_ (by kernel_rfl) ?_
                      try go_wp2
                      refine bodyPost_ret (results_list (rs := [.tmp 2, .tmp 3, .cell 4 25]) rfl (by simp) (.tmp (.tmp (.cell gb835 25 #[.int .i64 t848, .int .i64 t877, .slice Ao32 t850.length co32] (0, 0) _ rfl (by (with_reducible repeat (first | refine blk_drewN ?_ _ | refine blk_drew ?_ | refine blk_alloc ?_ _)); refine blk_put (cs := #[.int .i64 t848, .int .i64 t877, .slice none 0 0]) ?_ 2 _ rfl; (with_reducible repeat (first | refine blk_drewN ?_ _ | refine blk_drew ?_ | refine blk_alloc ?_ _)); refine blk_put (cs := #[.int .i64 t848, .int .i64 0, .slice none 0 0]) ?_ 1 _ rfl; (with_reducible repeat (first | refine blk_drewN ?_ _ | refine blk_drew ?_ | refine blk_alloc ?_ _)); refine blk_put (cs := #[.int .i64 0, .int .i64 0, .slice none 0 0]) ?_ 0 _ rfl; (with_reducible repeat (first | refine blk_drewN ?_ _ | refine blk_drew ?_ | refine blk_alloc ?_ _)); exact BK835.out) Try.underlying25 rfl (by kernel_rfl) .nil)))) rfl ?_
                      exact ⟨_, _, _, by first | rfl | (simp [errW_none, errW_some] <;> rfl) | (simp [*, errW_none, errW_some] <;> rfl), by (with_reducible repeat (first | apply Kd.R_alloc | apply Kd.R_drewN | apply Kd.R_drew)); exact Kd.R_mono (Kd.R_far (p := ⟨gb835, 2, none⟩) (Kd.R_far (p := ⟨gb835, 1, none⟩) (Kd.R_far (p := ⟨gb835, 0, none⟩) (Kd.R_types HO856.out BK835.out (by decide)) (fun _ hk => hk.2) (.int .i64 t848)) (fun _ hk => hk.2) (.int .i64 t877)) (fun _ hk => hk.2) (.slice Ao32 t850.length co32)) (fun _ hk => ⟨hk.1.1, hk.1.2⟩), by (with_reducible repeat (first | apply Kd.R_alloc | apply Kd.R_drewN | apply Kd.R_drew)); exact Kd.R_mono (Kd.R_far (p := ⟨gb835, 2, none⟩) (Kd.R_far (p := ⟨gb835, 1, none⟩) (Kd.R_far (p := ⟨gb835, 0, none⟩) (Kd.R_types HO863.out BK835.out (by decide)) (fun _ hk => hk.2) (.int .i64 t848)) (fun _ hk => hk.2) (.int .i64 t877)) (fun _ hk => hk.2) (.slice Ao32 t850.length co32)) (fun _ hk => ⟨hk.1.1, hk.1.2⟩), by (with_reducible repeat (first | apply Kd.N_alloc | apply Kd.N_drewN | apply Kd.N_drew)); exact Kd.N_mono (Kd.N_far (p := ⟨gb835, 2, none⟩) (Kd.N_far (p := ⟨gb835, 1, none⟩) (Kd.N_far (p := ⟨gb835, 0, none⟩) (Kd.N_mono HO852.out (fun k_ hk => (⟨hk, hk.2.2.2.2.2.1⟩ : _ ∧ k_ ≠ gb835))) (fun _ hk => hk.2) (.int .i64 t848)) (fun _ hk => hk.2) (.int .i64 t877)) (fun _ hk => hk.2) (.slice Ao32 t850.length co32)) (fun _ hk => ⟨hk.1.1, ⟨hk.1.2.2.1, hk.1.2.2.2.1⟩⟩), by repeat (first | (with_reducible first | exact HI0.out | apply IsS99.alloc | apply IsS99.drewN | apply IsS99.drew | apply IsS99.set_1 | refine IsS99.far ?_ NB0_835.out _ | refine IsS99.far ?_ NB0_853.out _) | exact HI0.out), by repeat (first | (with_reducible first | exact HB.out | apply below_alloc | apply pw_below_drewN | apply below_drew1 | refine below_set ?_ (IsS99.ge HI0.out) | refine below_set ?_ GE835.out | refine below_set ?_ GE853.out) | exact HB.out), by repeat (first | (with_reducible first | exact HK.out | apply KeepBut.set_ | apply keep_drewN | apply keep_drew | apply keep_alloc | refine keep_far ?_ GW835.out _ | refine keep_far ?_ GW853.out _) | exact HK.out)⟩
                    · rw [if_neg c69] at H
                      have c69b0 : (t864 == 2) = false := beq_eq_false_iff_ne.mpr c69
                      have c69b1 : (t864 != 2) = true := bne_iff_ne.mpr c69
                      by_cases c95 : t864 = 3
                      · rw [if_pos c95] at H
                        have c95b0 : (t864 == 3) = true := beq_iff_eq.mpr c95
                        have c95b1 : (t864 != 3) = false := bne_eq_false_iff_eq.mpr c95
                        clear c95
                        replace H := Option.bind_eq_some_iff.mp H
                        obtain ⟨⟨t879, t882⟩, A960, H⟩ := H
                        replace H : (if t850.length < 5864062014805 then (some (t854, y861, t848, t849, (t850 ++ [t879]), t882)) else (none)) = some (r1, r2, r3, r4, r5, r6) := H
                        have A96 := Aside0.mk A960
                        clear A960
                        by_cases c97 : t850.length < 5864062014805
                        · rw [if_pos c97] at H
                          have LMc97 := Aside0.mk c97
                          clear c97
                          obtain ⟨y883, hy883⟩ : ∃ y_ : List (List Int), y_ = (t850 ++ [t879]) := ⟨_, rfl⟩
                          replace H : (some (t854, y861, t848, t849, y883, t882)) = some (r1, r2, r3, r4, r5, r6) := by first | (rw [hy883]; with_reducible exact H) | (have H2_ := (Option.bind_some _ _).symm.trans H; rw [hy883]; with_reducible exact H2_) | (have H2_ := (Option.bind_some _ _).symm.trans H; with_reducible exact H2_) | with_reducible exact H | (rw [hy883]; exact H) | exact H
                          have Ny883 := Aside0.mk hy883
                          clear hy883
                          simp only [Option.some.injEq, Prod.mk.injEq] at H
                          obtain ⟨rfl, rfl, rfl, rfl, rfl, rfl⟩ := H
                          try go_wp2_with fail
                          have n0_ := Aside0.mk (Kd.N_drew HO_5.out)
                          have n1_ := Aside0.mk (Kd.N_drew HO852.out)
                          have n2_ := Aside0.mk (Kd.R_drew HO856.out)
                          have n3_ := Aside0.mk (Kd.V_drew HL860_0.out)
                          have n4_ := Aside0.mk (Kd.R_drew HO863.out)
                          have n5_ := Aside0.mk (blk_drew BK835.out)
                          have n6_ := Aside0.mk (blk_drew BK853.out)
                          have n7_ := Aside0.mk (IsS99.drew HI0.out)
                          have n8_ := Aside0.mk (keep_drew HK.out)
                          have n9_ := Aside0.mk (below_drew1 HB.out)
                          clear HO_5
                          clear HO852
                          clear HO856
                          clear HL860_0
                          clear HO863
                          clear BK835
                          clear BK853
                          clear HI0
                          clear HK
                          clear HB
                          have HO_5 := n0_
                          have HO852 := n1_
                          have HO856 := n2_
                          have HL860_0 := n3_
                          have HO863 := n4_
                          have BK835 := n5_
                          have BK853 := n6_
                          have HI0 := n7_
                          have HK := n8_
                          have HB := n9_
                          clear n0_ n1_ n2_ n3_ n4_ n5_ n6_ n7_ n8_ n9_
                          refine start_ (n := 8) (S := fun w' => w'.cell? ⟨gb853, 0, none⟩ = some (.int .i64 t848) ∧ w'.cell? ⟨gb853, 1, none⟩ = some (.int .i64 t849) ∧ w'.cell? ⟨gb853, 2, none⟩ = some (.slice Ao32 t850.length co32)) (ds := [7]) #[false, false, false, false, false, false, false, false] (by kernel_rfl) rfl rfl ⟨(blk_cell BK853.out 0).trans (by first | rfl | (simp only [*] <;> rfl)), (blk_cell BK853.out 1).trans (by first | rfl | (simp only [*] <;> rfl)), (blk_cell BK853.out 2).trans (by first | rfl | (simp only [*] <;> rfl))⟩ (fun hHeld => ?_); refine with_tabW spec_l3Draw.tab16 spec_l3Draw.bits16 (fun HT_ HW_ => ?_)
                          generalize w37.drew = w111 at HO_5 HO852 HO856 HL860_0 HO863 BK835 BK853 HI0 HK HB hHeld ⊢
                          refine pure_ (i := 0) (N := some 69) (v := ?_) (a' := ?_) #[true, false, false, false, false, false, false, false] rfl rfl (any_of HT_.out (by kernel_rfl)) (fun _ _ _ h => h) (Or.inl ⟨by rfl, ?_⟩) ?_ ?_
                          rotate_left
                          · intro w'
                            go_simp
                            with_reducible rfl
                          rotate_left
                          · simp only [Act.put, List.setIfInBounds_toArray, List.set_cons_zero, List.set_cons_succ, i64_w, i32_w]
                            rfl
                          refine pure_ (i := 2) (N := some 71) (v := ?_) (a' := ?_) #[true, false, true, false, false, false, false, false] rfl rfl (any_of HT_.out (by kernel_rfl)) (fun _ _ _ h => h) (Or.inl ⟨by rfl, ?_⟩) ?_ ?_
                          rotate_left
                          · intro w'
                            go_simp
                            with_reducible rfl
                          rotate_left
                          · simp only [Act.put, List.setIfInBounds_toArray, List.set_cons_zero, List.set_cons_succ, i64_w, i32_w]
                            rfl
                          refine take_ (i := 1) (N := some 70) (v := ?_) (a' := ?_) #[true, true, true, false, false, false, false, false] rfl rfl (take_ofW HT_.out HW_.out (by kernel_rfl)) (fun _ _ _ h => h) (Or.inl ⟨by rfl, ?_⟩) hHeld ?_ ?_
                          rotate_left
                          · rintro w' ⟨s0, s1, s2⟩
                            go_simp
                            with_reducible rfl
                          rotate_left
                          · simp only [Act.put, List.setIfInBounds_toArray, List.set_cons_zero, List.set_cons_succ, i64_w, i32_w]
                            rfl
                          refine one_ (i := 3) (N := some 72) #[true, true, true, true, false, false, false, false] rfl rfl (one_of HT_.out (by kernel_rfl)) (by decide) (fun K hK => ?_)
                          refine goes_ Try.func85 (by kernel_rfl) rfl #[.pointer (some ⟨g, 0, none⟩), .int .i64 32] (by rfl) rfl rfl (by (try simp only [List.map_toArray, List.map_cons, List.map_nil]); first | done | rfl | (simp only [List.length_drop, List.length_take]; rfl)) ?_
                          with_reducible refine (spec_l1Some.calls kj8 g s0_0 t865 32 t879 t882 w0 _ ?side1 ?side2 A96.out).mono ?_
                          (case side1 => repeat (first | (with_reducible first | exact HI0.out | apply IsS99.alloc | apply IsS99.drewN | apply IsS99.drew | apply IsS99.set_1 | refine IsS99.far ?_ NB0_835.out _ | refine IsS99.far ?_ NB0_853.out _) | exact HI0.out))
                          (case side2 => repeat (first | (with_reducible first | exact HB.out | apply below_alloc | apply pw_below_drewN | apply below_drew1 | refine below_set ?_ (IsS99.ge HI0.out) | refine below_set ?_ GE835.out | refine below_set ?_ GE853.out) | exact HB.out))
                          rintro e w112 ⟨v880, rfl, ho0, hi, hb, hk⟩
                          refine ⟨_, rfl, ?_⟩
                          have n0_ := Aside0.mk (Kd.N_mono (Kd.N_told (Kd.N_oldK (Kd.N_mono (ok := fun k_ => ((((w.heap.size ≤ k_)) ∧ (some k_ ≠ (.slice Ao32 t850.length co32 : Value).ownBlock ∧ (some k_ ≠ (v855 : Value).ownBlock ∧ (k_ ≠ gb835 ∧ (k_ ≠ g ∧ k_ ≠ gb853))))) ∧ some k_ ≠ (v862 : Value).ownBlock)) (by (with_reducible repeat (first | apply Kd.N_alloc | apply Kd.N_drewN | apply Kd.N_drew)); exact HO_5.out) (fun k_ hk_ => (⟨hk_, hk_.1.2.2.2.2.1⟩ : _ ∧ k_ ≠ g))) hk) (Kd.R_base ho0)) (fun _ h_ => h_.1))
                          have n1_ := Aside0.mk (KeepBut.blk hk (g' := gb835) (o := .cells #[.int .i64 0, .int .i64 0, .slice none 0 0] 25 (0, 0)) (by (with_reducible repeat (first | refine blk_drewN ?_ _ | refine blk_drew ?_ | refine blk_alloc ?_ _)); exact BK835.out) NB835_0.out (by simp))
                          have n2_ := Aside0.mk (Kd.N_mono (Kd.N_told (Kd.N_oldK (Kd.N_mono (ok := fun k_ => ((((w.heap.size ≤ k_)) ∧ (some k_ ≠ (.slice (some ad860) x5_8.length co25 : Value).ownBlock ∧ (some k_ ≠ (v855 : Value).ownBlock ∧ (k_ ≠ gb835 ∧ (k_ ≠ g ∧ k_ ≠ gb853))))) ∧ some k_ ≠ (v862 : Value).ownBlock)) (by (with_reducible repeat (first | apply Kd.N_alloc | apply Kd.N_drewN | apply Kd.N_drew)); exact HO852.out) (fun k_ hk_ => (⟨hk_, hk_.1.2.2.2.2.1⟩ : _ ∧ k_ ≠ g))) hk) (Kd.R_base ho0)) (fun _ h_ => h_.1))
                          have n3_ := Aside0.mk (KeepBut.blk hk (g' := gb853) (o := .cells #[.int .i64 t848, .int .i64 t849, .slice Ao32 t850.length co32] 25 (0, 0)) (by (with_reducible repeat (first | refine blk_drewN ?_ _ | refine blk_drew ?_ | refine blk_alloc ?_ _)); exact BK853.out) NB853_0.out (by simp))
                          have n4_ := Aside0.mk (Kd.R_mono (Kd.R_told (Kd.R_oldK (IsS99.apart (show IsS99 w0 _ g s0_0 t865 from by repeat (first | (with_reducible first | exact HI0.out | apply IsS99.alloc | apply IsS99.drewN | apply IsS99.drew | apply IsS99.set_1 | refine IsS99.far ?_ NB0_835.out _ | refine IsS99.far ?_ NB0_853.out _) | exact HI0.out)) (by (with_reducible repeat (first | apply Kd.R_alloc | apply Kd.R_drewN | apply Kd.R_drew)); exact HO856.out) (by decide)) hk) (Kd.R_base ho0)) (fun _ h_ => h_.1))
                          have n5_ := Aside0.mk (Kd.V_mono (Kd.V_told (Kd.V_oldK (Kd.V_mono (ok := fun k_ => ((((w.heap.size ≤ k_)) ∧ (some k_ ≠ (.slice (some ad860) x5_8.length co25 : Value).ownBlock ∧ (some k_ ≠ (.slice Ao32 t850.length co32 : Value).ownBlock ∧ (some k_ ≠ (v855 : Value).ownBlock ∧ (k_ ≠ gb835 ∧ (k_ ≠ g ∧ k_ ≠ gb853)))))) ∧ some k_ ≠ (v862 : Value).ownBlock)) (by (with_reducible repeat (first | apply Kd.V_alloc | apply Kd.V_drewN | apply Kd.V_drew)); exact HL860_0.out) (fun k_ hk_ => (⟨hk_, hk_.1.2.2.2.2.2.1⟩ : _ ∧ k_ ≠ g))) hk) (Kd.R_base ho0)) (fun _ h_ => h_.1))
                          have n6_ := Aside0.mk (Kd.R_mono (Kd.R_told (Kd.R_oldK (IsS99.apart (show IsS99 w0 _ g s0_0 t865 from by repeat (first | (with_reducible first | exact HI0.out | apply IsS99.alloc | apply IsS99.drewN | apply IsS99.drew | apply IsS99.set_1 | refine IsS99.far ?_ NB0_835.out _ | refine IsS99.far ?_ NB0_853.out _) | exact HI0.out)) (by (with_reducible repeat (first | apply Kd.R_alloc | apply Kd.R_drewN | apply Kd.R_drew)); exact HO863.out) (by decide)) hk) (Kd.R_base ho0)) (fun _ h_ => h_.1))
                          have n7_ := Aside0.mk (Kd.R_lower (Kd.R_new' (Kd.R_new' (Kd.R_newM (M := fun k_ => (w.heap.size ≤ k_)) ho0 (keep_size (w := w) (g := g) (row := none) (by repeat (first | (with_reducible first | exact HK.out | apply KeepBut.set_ | apply keep_drewN | apply keep_drew | apply keep_alloc | refine keep_far ?_ GW835.out _ | refine keep_far ?_ GW853.out _) | exact HK.out))) (fun k_ h_ => h_)) (Kd.R_lt (by (with_reducible repeat (first | apply Kd.R_alloc | apply Kd.R_drewN | apply Kd.R_drew)); exact HO856.out))) (Kd.R_lt (by (with_reducible repeat (first | apply Kd.R_alloc | apply Kd.R_drewN | apply Kd.R_drew)); exact HO863.out))) (keep_size (w := w) (g := g) (row := none) (by repeat (first | (with_reducible first | exact HK.out | apply KeepBut.set_ | apply keep_drewN | apply keep_drew | apply keep_alloc | refine keep_far ?_ GW835.out _ | refine keep_far ?_ GW853.out _) | exact HK.out))))
                          have n8_ := Aside0.mk (KeepBut.trans (by repeat (first | (with_reducible first | exact HK.out | apply KeepBut.set_ | apply keep_drewN | apply keep_drew | apply keep_alloc | refine keep_far ?_ GW835.out _ | refine keep_far ?_ GW853.out _) | exact HK.out)) hk (.inl rfl))
                          have n9_ := Aside0.mk (hb)
                          have n10_ := Aside0.mk (hi)
                          clear HO_5
                          clear BK835
                          clear HO852
                          clear BK853
                          clear HO856
                          clear HL860_0
                          clear HO863
                          clear HK
                          clear HB
                          clear HI0
                          have HO_5 := n0_
                          have BK835 := n1_
                          have HO852 := n2_
                          have BK853 := n3_
                          have HO856 := n4_
                          have HL860_0 := n5_
                          have HO863 := n6_
                          have HO881 := n7_
                          have HK := n8_
                          have HB := n9_
                          have HI0 := n10_
                          clear n0_ n1_ n2_ n3_ n4_ n5_ n6_ n7_ n8_ n9_ n10_
                          (try clear hb)
                          (try clear hb2)
                          (try clear hk)
                          (try clear hi)
                          (try clear ho0)
                          obtain ⟨Ao114, co114, eo114⟩ := Kd.R_slice HO881.out
                          (first | subst eo114 | (injection eo114 with f1_ f2_ f3_; have f4_ := f1_.symm; have f5_ := f3_.symm; clear f1_ f2_ f3_; subst f4_; subst f5_))
                          refine hK.out _ _ ⟨(blk_cell BK853.out 0).trans (by first | rfl | (simp only [*] <;> rfl)), (blk_cell BK853.out 1).trans (by first | rfl | (simp only [*] <;> rfl)), (blk_cell BK853.out 2).trans (by first | rfl | (simp only [*] <;> rfl))⟩ (fun hHeld => ?_)
                          clear hK K
                          refine norm_ (a' := ?_) ?_ ?_
                          rotate_left
                          · show Act.put _ (some 72) _ = _
                            simp only [Act.put, List.setIfInBounds_toArray, List.set_cons_zero, List.set_cons_succ, i64_w, i32_w]
                            rfl
                          refine one_ (i := 4) (N := some 73) #[true, true, true, true, true, false, false, false] rfl rfl (one_of HT_.out (by kernel_rfl)) (by decide) (fun K hK => ?_)
                          refine value_ (w1 := ?_) (v := ?_) (by rfl) rfl ?_ ?_
                          rotate_left 2
                          · go_simp
                            constructor
                            · rfl
                            · rfl
                          refine hK.out _ _ ⟨(blk_cell (blk_alloc BK853.out _) 0).trans rfl, (blk_cell (blk_alloc BK853.out _) 1).trans rfl, (blk_cell (blk_alloc BK853.out _) 2).trans rfl⟩ (fun hHeld => ?_)
                          clear hK K
                          refine norm_ (a' := ?_) ?_ ?_
                          rotate_left
                          · show Act.put _ (some 73) _ = _
                            simp only [Act.put, List.setIfInBounds_toArray, List.set_cons_zero, List.set_cons_succ, i64_w, i32_w]
                            rfl
                          refine one_ (i := 5) (N := some 74) #[true, true, true, true, true, true, false, false] rfl rfl (one_of HT_.out (by kernel_rfl)) (by decide) (fun K hK => ?_)
                          refine Kd.N_append_step (Kd.slice 5 (Kd.int .u8)) w.heap.size (by rfl) (.tmp 70) (.tmp 73) 23 22 (.slice none 0 0) 24 rfl Try.underlying23 info22 rfl (by decide) (by omega) (.slice Ao32 t850.length co32) t850 t879 [.slice Ao114 t879.length co114] (fun k_ => (w.heap.size ≤ k_) ∧ some k_ ≠ (.slice (some ad860) x5_8.length co25 : Value).ownBlock ∧ some k_ ≠ (v855 : Value).ownBlock ∧ some k_ ≠ (v862 : Value).ownBlock ∧ k_ ≠ gb835 ∧ k_ ≠ gb853 ∧ k_ ≠ g) (fun k_ => ((fun k_ => (w.heap.size ≤ k_) ∧ some k_ ≠ (.slice (some ad860) x5_8.length co25 : Value).ownBlock ∧ some k_ ≠ (v855 : Value).ownBlock ∧ some k_ ≠ (v862 : Value).ownBlock ∧ k_ ≠ gb835 ∧ k_ ≠ gb853 ∧ k_ ≠ g)) k_ ∧ some k_ ≠ (.slice Ao32 t850.length co32 : Value).ownBlock) rfl rfl ?aP (fun _ hk => hk) ?aF ?aO (Below.refl _ _) ?aS ?aL ?_
                          (case aP => exact (Kd.FK_slice_mk (Kd.R_reads' (Kd.R_mono (ok' := (fun k_ => ((fun k_ => (w.heap.size ≤ k_) ∧ some k_ ≠ (.slice (some ad860) x5_8.length co25 : Value).ownBlock ∧ some k_ ≠ (v855 : Value).ownBlock ∧ some k_ ≠ (v862 : Value).ownBlock ∧ k_ ≠ gb835 ∧ k_ ≠ gb853 ∧ k_ ≠ g)) k_ ∧ some k_ ≠ (.slice Ao32 t850.length co32 : Value).ownBlock)) (IsS99.apart HI0.out (Kd.R_types (Kd.R_types (Kd.R_apart' (Kd.R_apart' (HO881.out) (Kd.N_typed HO_5.out) (by decide)) (Kd.N_typed HO852.out) (by decide)) BK835.out (by decide)) BK853.out (by decide)) (by decide)) (fun k_ hk => ⟨⟨hk.1.1.1.1.1.1.1.1, ⟨hk.1.1.1.1.2, ⟨hk.1.1.1.1.1.1.2, ⟨hk.1.1.1.1.1.2, ⟨hk.1.1.2, ⟨hk.1.2, hk.2⟩⟩⟩⟩⟩⟩, hk.1.1.1.2⟩))).2.1 (Kd.R_F (Kd.R_mono (ok' := (fun k_ => ((fun k_ => (w.heap.size ≤ k_) ∧ some k_ ≠ (.slice (some ad860) x5_8.length co25 : Value).ownBlock ∧ some k_ ≠ (v855 : Value).ownBlock ∧ some k_ ≠ (v862 : Value).ownBlock ∧ k_ ≠ gb835 ∧ k_ ≠ gb853 ∧ k_ ≠ g)) k_ ∧ some k_ ≠ (.slice Ao32 t850.length co32 : Value).ownBlock)) (IsS99.apart HI0.out (Kd.R_types (Kd.R_types (Kd.R_apart' (Kd.R_apart' (HO881.out) (Kd.N_typed HO_5.out) (by decide)) (Kd.N_typed HO852.out) (by decide)) BK835.out (by decide)) BK853.out (by decide)) (by decide)) (fun k_ hk => ⟨⟨hk.1.1.1.1.1.1.1.1, ⟨hk.1.1.1.1.2, ⟨hk.1.1.1.1.1.1.2, ⟨hk.1.1.1.1.1.2, ⟨hk.1.1.2, ⟨hk.1.2, hk.2⟩⟩⟩⟩⟩⟩, hk.1.1.1.2⟩)))))
                          (case aF => exact (fun k_ hk => ⟨(Nat.le_trans (keep_size (w := w) (g := g) (row := none) (by repeat (first | (with_reducible first | exact HK.out | apply KeepBut.set_ | apply keep_drewN | apply keep_drew | apply keep_alloc | refine keep_far ?_ GW835.out _ | refine keep_far ?_ GW853.out _) | exact HK.out))) hk), Kd.fresh' (Kd.N_lt (by (with_reducible repeat (first | apply Kd.N_alloc | apply Kd.N_drewN | apply Kd.N_drew)); exact HO_5.out)) k_ hk, Kd.fresh' (Kd.R_lt (by (with_reducible repeat (first | apply Kd.R_alloc | apply Kd.R_drewN | apply Kd.R_drew)); exact HO856.out)) k_ hk, Kd.fresh' (Kd.R_lt (by (with_reducible repeat (first | apply Kd.R_alloc | apply Kd.R_drewN | apply Kd.R_drew)); exact HO863.out)) k_ hk, Kd.freshB (g := gb835) (o := .cells #[.int .i64 0, .int .i64 0, .slice none 0 0] 25 (0, 0)) (by (with_reducible repeat (first | refine blk_drewN ?_ _ | refine blk_drew ?_ | refine blk_alloc ?_ _)); exact BK835.out) k_ hk, Kd.freshB (g := gb853) (o := .cells #[.int .i64 t848, .int .i64 t849, .slice Ao32 t850.length co32] 25 (0, 0)) (by (with_reducible repeat (first | refine blk_drewN ?_ _ | refine blk_drew ?_ | refine blk_alloc ?_ _)); exact BK853.out) k_ hk, IsS99.fresh (by repeat (first | (with_reducible first | exact HI0.out | apply IsS99.alloc | apply IsS99.drewN | apply IsS99.drew | apply IsS99.set_1 | refine IsS99.far ?_ NB0_835.out _ | refine IsS99.far ?_ NB0_853.out _) | exact HI0.out)) k_ hk⟩))
                          (case aO => exact (by (with_reducible repeat (first | apply Kd.N_alloc | apply Kd.N_drewN | apply Kd.N_drew)); exact Kd.N_mono HO852.out (fun _ hk => ⟨hk.1.1.1, ⟨hk.1.1.2.1, ⟨hk.1.1.2.2.1, ⟨hk.1.2, ⟨hk.1.1.2.2.2.1, ⟨hk.1.1.2.2.2.2.2, hk.1.1.2.2.2.2.1⟩⟩⟩⟩⟩⟩)))
                          (case aS => exact (keep_size (w := w) (g := g) (row := none) (by repeat (first | (with_reducible first | exact HK.out | apply KeepBut.set_ | apply keep_drewN | apply keep_drew | apply keep_alloc | refine keep_far ?_ GW835.out _ | refine keep_far ?_ GW853.out _) | exact HK.out))))
                          (case aL => have := LMc97.out; omega)
                          intro v884 w113 ho hb hg hat
                          rw [← Ny883.out] at ho
                          have n0_ := Aside0.mk (Kd.N_afterv (ok := (fun k_ => (w.heap.size ≤ k_) ∧ some k_ ≠ (v855 : Value).ownBlock ∧ some k_ ≠ (v862 : Value).ownBlock ∧ some k_ ≠ (.slice Ao114 t879.length co114 : Value).ownBlock ∧ k_ ≠ gb835 ∧ k_ ≠ g ∧ k_ ≠ gb853)) (by (with_reducible repeat (first | apply Kd.N_alloc | apply Kd.N_drewN | apply Kd.N_drew)); exact Kd.N_mono HO_5.out (fun _ hk => ⟨⟨hk.1.1.1, ⟨hk.1.1.2.2.1, ⟨hk.1.2, ⟨hk.2, ⟨hk.1.1.2.2.2.1, ⟨hk.1.1.2.2.2.2.1, hk.1.1.2.2.2.2.2⟩⟩⟩⟩⟩⟩, hk.1.1.2.1⟩)) hg hat)
                          have n1_ := Aside0.mk (blk_grown (g := gb835) (o := .cells #[.int .i64 0, .int .i64 0, .slice none 0 0] 25 (0, 0)) (by (with_reducible repeat (first | refine blk_drewN ?_ _ | refine blk_drew ?_ | refine blk_alloc ?_ _)); exact BK835.out) hg (Kd.N_ne HO852.out BK835.out (by decide)))
                          have n2_ := Aside0.mk (IsS99.grown (by repeat (first | (with_reducible first | exact HI0.out | apply IsS99.alloc | apply IsS99.drewN | apply IsS99.drew | apply IsS99.set_1 | refine IsS99.far ?_ NB0_835.out _ | refine IsS99.far ?_ NB0_853.out _) | exact HI0.out)) hg (IsS99.own_neN HI0.out HO852.out (by decide)))
                          have n3_ := Aside0.mk (blk_grown (g := gb853) (o := .cells #[.int .i64 t848, .int .i64 t849, .slice Ao32 t850.length co32] 25 (0, 0)) (by (with_reducible repeat (first | refine blk_drewN ?_ _ | refine blk_drew ?_ | refine blk_alloc ?_ _)); exact BK853.out) hg (Kd.N_ne HO852.out BK853.out (by decide)))
                          have n4_ := Aside0.mk (Kd.R_over' (by (with_reducible repeat (first | apply Kd.R_alloc | apply Kd.R_drewN | apply Kd.R_drew)); exact HO856.out) (Kd.N_typed (by (with_reducible repeat (first | apply Kd.N_alloc | apply Kd.N_drewN | apply Kd.N_drew)); exact HO852.out)) (by decide) hg)
                          have n5_ := Aside0.mk (Kd.V_afterv (ok := (fun k_ => (w.heap.size ≤ k_) ∧ some k_ ≠ (.slice (some ad860) x5_8.length co25 : Value).ownBlock ∧ some k_ ≠ (v855 : Value).ownBlock ∧ some k_ ≠ (v862 : Value).ownBlock ∧ some k_ ≠ (.slice Ao114 t879.length co114 : Value).ownBlock ∧ k_ ≠ gb835 ∧ k_ ≠ g ∧ k_ ≠ gb853)) (by (with_reducible repeat (first | apply Kd.V_alloc | apply Kd.V_drewN | apply Kd.V_drew)); exact Kd.V_mono HL860_0.out (fun _ hk => ⟨⟨hk.1.1.1, ⟨hk.1.1.2.1, ⟨hk.1.1.2.2.2.1, ⟨hk.1.2, ⟨hk.2, ⟨hk.1.1.2.2.2.2.1, ⟨hk.1.1.2.2.2.2.2.1, hk.1.1.2.2.2.2.2.2⟩⟩⟩⟩⟩⟩⟩, hk.1.1.2.2.1⟩)) hg hat)
                          have n6_ := Aside0.mk (Kd.R_over' (by (with_reducible repeat (first | apply Kd.R_alloc | apply Kd.R_drewN | apply Kd.R_drew)); exact HO863.out) (Kd.N_typed (by (with_reducible repeat (first | apply Kd.N_alloc | apply Kd.N_drewN | apply Kd.N_drew)); exact HO852.out)) (by decide) hg)
                          have n7_ := Aside0.mk (below_weaken (by repeat (first | (with_reducible first | exact HB.out | apply below_alloc | apply pw_below_drewN | apply below_drew1 | refine below_set ?_ (IsS99.ge HI0.out) | refine below_set ?_ GE835.out | refine below_set ?_ GE853.out) | exact HB.out)) HL.out hb)
                          have n8_ := Aside0.mk (KeepBut.trans (by repeat (first | (with_reducible first | exact HK.out | apply KeepBut.set_ | apply keep_drewN | apply keep_drew | apply keep_alloc | refine keep_far ?_ GW835.out _ | refine keep_far ?_ GW853.out _) | exact HK.out)) (KeepBut.of_grown hg g) (Kd.N_base2 HO852.out))
                          have n9_ := Aside0.mk (ho)
                          clear HO_5
                          clear BK835
                          clear HI0
                          clear BK853
                          clear HO856
                          clear HL860_0
                          clear HO863
                          clear HB
                          clear HK
                          clear HO852
                          clear HO881
                          have HO_5 := n0_
                          have BK835 := n1_
                          have HI0 := n2_
                          have BK853 := n3_
                          have HO856 := n4_
                          have HL860_0 := n5_
                          have HO863 := n6_
                          have HB := n7_
                          have HK := n8_
                          have HO885 := n9_
                          clear n0_ n1_ n2_ n3_ n4_ n5_ n6_ n7_ n8_ n9_
                          clear ho hb hg hat
                          obtain ⟨Ao115, co115, eo115⟩ := Kd.N_slice HO885.out
                          (first | subst eo115 | (injection eo115 with f1_ f2_ f3_; have f4_ := f1_.symm; have f5_ := f3_.symm; clear f1_ f2_ f3_; subst f4_; subst f5_))
                          refine hK.out _ _ ⟨(blk_cell BK853.out 0).trans (by first | rfl | (simp only [*] <;> rfl)), (blk_cell BK853.out 1).trans (by first | rfl | (simp only [*] <;> rfl)), (blk_cell BK853.out 2).trans (by first | rfl | (simp only [*] <;> rfl))⟩ (fun hHeld => ?_)
                          clear hK K
                          refine norm_ (a' := ?_) ?_ ?_
                          rotate_left
                          · show Act.put _ (some 74) _ = _
                            simp only [Act.put, List.setIfInBounds_toArray, List.set_cons_zero, List.set_cons_succ, i64_w, i32_w]
                            rfl
                          refine pure_ (i := 6) (N := some 75) (v := ?_) (a' := ?_) #[true, true, true, true, true, true, true, false] rfl rfl (any_of HT_.out (by kernel_rfl)) (fun _ _ _ h => h) (Or.inl ⟨by rfl, ?_⟩) ?_ ?_
                          rotate_left
                          · intro w'
                            go_simp
                            with_reducible rfl
                          rotate_left
                          · simp only [Act.put, List.setIfInBounds_toArray, List.set_cons_zero, List.set_cons_succ, i64_w, i32_w]
                            rfl
                          refine last_ (i := 7) (N := none) #[true, true, true, true, true, true, true, true] rfl rfl (one_of HT_.out (by kernel_rfl)) (by decide) (fun K hK => ?_)
                          have hs116 : w113.cell? ⟨gb853, 2, none⟩ = some (.slice Ao32 t850.length co32) := (blk_cell BK853.out 2).trans (by first | rfl | (simp only [*] <;> rfl))
                          have hfs116 := blk_frozen BK853.out 2
                          have hns116_0 := NB835_853.out
                          have hms116_0 := NB853_835.out
                          refine skip_ (w1 := ?_) (by rfl) rfl ?_ ?_
                          rotate_left
                          · go_simp
                            rfl
                          refine hK.out _ _ ?_
                          clear hK K
                          refine done_ (done_of HT_.out (by kernel_rfl)) ?_
                          try go_wp2
                          have n0_ : Aside0 (Kd.N (Kd.slice 5 (Kd.int .u8)) 22 (w113.setCell ⟨gb853, 2, none⟩ (.slice Ao115 y883.length co115)) w.heap.size (fun k_ => (w.heap.size ≤ k_) ∧ some k_ ≠ (v855 : Value).ownBlock ∧ some k_ ≠ (v862 : Value).ownBlock ∧ some k_ ≠ (.slice Ao115 y883.length co115 : Value).ownBlock ∧ k_ ≠ gb835 ∧ k_ ≠ g ∧ k_ ≠ gb853) (.slice (some ad860) x5_8.length co25) x5_8) := ⟨by (with_reducible repeat (first | apply Kd.N_alloc | apply Kd.N_drewN | apply Kd.N_drew)); exact Kd.N_mono (Kd.N_far (p := ⟨gb853, 2, none⟩) (Kd.N_mono HO_5.out (fun k_ hk => (⟨hk, hk.1.2.2.2.2.2.2⟩ : _ ∧ k_ ≠ gb853))) (fun _ hk => hk.2) (.slice Ao115 y883.length co115)) (fun _ hk => ⟨hk.1.1.1, ⟨hk.1.1.2.1, ⟨hk.1.1.2.2.1, ⟨hk.1.2, ⟨hk.1.1.2.2.2.2.1, ⟨hk.1.1.2.2.2.2.2.1, hk.1.1.2.2.2.2.2.2⟩⟩⟩⟩⟩⟩)⟩
                          have n1_ : Aside0 (Kd.R (Kd.int .u8) 5 (w113.setCell ⟨gb853, 2, none⟩ (.slice Ao115 y883.length co115)) w.heap.size (fun k_ => (w.heap.size ≤ k_) ∧ some k_ ≠ (v862 : Value).ownBlock) v855 t854) := ⟨by (with_reducible repeat (first | apply Kd.R_alloc | apply Kd.R_drewN | apply Kd.R_drew)); exact Kd.R_mono (Kd.R_far (p := ⟨gb853, 2, none⟩) (Kd.R_types HO856.out BK853.out (by decide)) (fun _ hk => hk.2) (.slice Ao115 y883.length co115)) (fun _ hk => ⟨hk.1.1.1, hk.1.1.2⟩)⟩
                          have n2_ : Aside0 (Kd.V (Kd.int .u8) 5 (w113.setCell ⟨gb853, 2, none⟩ (.slice Ao115 y883.length co115)) w.heap.size (fun k_ => (w.heap.size ≤ k_) ∧ some k_ ≠ (.slice (some ad860) x5_8.length co25 : Value).ownBlock ∧ some k_ ≠ (v855 : Value).ownBlock ∧ some k_ ≠ (v862 : Value).ownBlock ∧ some k_ ≠ (.slice Ao115 y883.length co115 : Value).ownBlock ∧ k_ ≠ gb835 ∧ k_ ≠ g ∧ k_ ≠ gb853) (.slice A860_0 (rd_L1 x5_8 t846).length c860_0) (rd_L1 x5_8 t846)) := ⟨by (with_reducible repeat (first | apply Kd.V_alloc | apply Kd.V_drewN | apply Kd.V_drew)); exact Kd.V_mono (Kd.V_far (p := ⟨gb853, 2, none⟩) (Kd.V_mono HL860_0.out (fun k_ hk => (⟨hk, hk.1.2.2.2.2.2.2.2⟩ : _ ∧ k_ ≠ gb853))) (fun _ hk => hk.2) (.slice Ao115 y883.length co115)) (fun _ hk => ⟨hk.1.1.1, ⟨hk.1.1.2.1, ⟨hk.1.1.2.2.1, ⟨hk.1.1.2.2.2.1, ⟨hk.1.2, ⟨hk.1.1.2.2.2.2.2.1, ⟨hk.1.1.2.2.2.2.2.2.1, hk.1.1.2.2.2.2.2.2.2⟩⟩⟩⟩⟩⟩⟩)⟩
                          have n3_ : Aside0 (Kd.R (Kd.int .u8) 5 (w113.setCell ⟨gb853, 2, none⟩ (.slice Ao115 y883.length co115)) w.heap.size (fun k_ => (w.heap.size ≤ k_) ∧ some k_ ≠ (v855 : Value).ownBlock) v862 y861) := ⟨by (with_reducible repeat (first | apply Kd.R_alloc | apply Kd.R_drewN | apply Kd.R_drew)); exact Kd.R_mono (Kd.R_far (p := ⟨gb853, 2, none⟩) (Kd.R_types HO863.out BK853.out (by decide)) (fun _ hk => hk.2) (.slice Ao115 y883.length co115)) (fun _ hk => ⟨hk.1.1.1, hk.1.1.2⟩)⟩
                          have n4_ : Aside0 (Kd.N (Kd.slice 5 (Kd.int .u8)) 22 (w113.setCell ⟨gb853, 2, none⟩ (.slice Ao115 y883.length co115)) w.heap.size (fun k_ => (w.heap.size ≤ k_) ∧ some k_ ≠ (.slice (some ad860) x5_8.length co25 : Value).ownBlock ∧ some k_ ≠ (v855 : Value).ownBlock ∧ some k_ ≠ (v862 : Value).ownBlock ∧ k_ ≠ gb835 ∧ k_ ≠ gb853 ∧ k_ ≠ g) (.slice Ao115 y883.length co115) y883) := ⟨by (with_reducible repeat (first | apply Kd.N_alloc | apply Kd.N_drewN | apply Kd.N_drew)); exact Kd.N_mono (Kd.N_far (p := ⟨gb853, 2, none⟩) (Kd.N_mono HO885.out (fun k_ hk => (⟨hk, hk.2.2.2.2.2.1⟩ : _ ∧ k_ ≠ gb853))) (fun _ hk => hk.2) (.slice Ao115 y883.length co115)) (fun _ hk => ⟨hk.1.1, ⟨hk.1.2.1, ⟨hk.1.2.2.1, ⟨hk.1.2.2.2.1, ⟨hk.1.2.2.2.2.1, ⟨hk.1.2.2.2.2.2.1, hk.1.2.2.2.2.2.2⟩⟩⟩⟩⟩⟩)⟩
                          have n5_ : Aside0 ((w113.setCell ⟨gb853, 2, none⟩ (.slice Ao115 y883.length co115)).heap[gb835]? = some (.cells #[.int .i64 0, .int .i64 0, .slice none 0 0] 25 (0, 0))) := ⟨by (with_reducible repeat (first | refine blk_drewN ?_ _ | refine blk_drew ?_ | refine blk_alloc ?_ _)); refine blk_far ?_ NB835_853.out _; (with_reducible repeat (first | refine blk_drewN ?_ _ | refine blk_drew ?_ | refine blk_alloc ?_ _)); exact BK835.out⟩
                          have n6_ : Aside0 ((w113.setCell ⟨gb853, 2, none⟩ (.slice Ao115 y883.length co115)).heap[gb853]? = some (.cells #[.int .i64 t848, .int .i64 t849, .slice Ao115 y883.length co115] 25 (0, 0))) := ⟨by (with_reducible repeat (first | refine blk_drewN ?_ _ | refine blk_drew ?_ | refine blk_alloc ?_ _)); refine blk_put (cs := #[.int .i64 t848, .int .i64 t849, .slice Ao32 t850.length co32]) ?_ 2 _ rfl; (with_reducible repeat (first | refine blk_drewN ?_ _ | refine blk_drew ?_ | refine blk_alloc ?_ _)); exact BK853.out⟩
                          have n7_ : Aside0 (IsS99 w0 (w113.setCell ⟨gb853, 2, none⟩ (.slice Ao115 y883.length co115)) g s0_0 t882) := ⟨by repeat (first | (with_reducible first | exact HI0.out | apply IsS99.alloc | apply IsS99.drewN | apply IsS99.drew | apply IsS99.set_1 | refine IsS99.far ?_ NB0_835.out _ | refine IsS99.far ?_ NB0_853.out _) | exact HI0.out)⟩
                          have n8_ : Aside0 (KeepBut w (w113.setCell ⟨gb853, 2, none⟩ (.slice Ao115 y883.length co115)) g none) := ⟨by repeat (first | (with_reducible first | exact HK.out | apply KeepBut.set_ | apply keep_drewN | apply keep_drew | apply keep_alloc | refine keep_far ?_ GW835.out _ | refine keep_far ?_ GW853.out _) | exact HK.out)⟩
                          have n9_ : Aside0 (Below w0.heap.size w0 (w113.setCell ⟨gb853, 2, none⟩ (.slice Ao115 y883.length co115))) := ⟨by repeat (first | (with_reducible first | exact HB.out | apply below_alloc | apply pw_below_drewN | apply below_drew1 | refine below_set ?_ (IsS99.ge HI0.out) | refine below_set ?_ GE835.out | refine below_set ?_ GE853.out) | exact HB.out)⟩
                          (try clear HO_5)
                          (try clear HO856)
                          (try clear HL860_0)
                          (try clear HO863)
                          (try clear HO885)
                          (try clear BK835)
                          (try clear BK853)
                          (try clear HI0)
                          (try clear HK)
                          (try clear HB)
                          generalize (w113.setCell ⟨gb853, 2, none⟩ (.slice Ao115 y883.length co115)) = w117 at n0_ n1_ n2_ n3_ n4_ n5_ n6_ n7_ n8_ n9_ ⊢
                          have HO_5 := n0_
                          have HO856 := n1_
                          have HL860_0 := n2_
                          have HO863 := n3_
                          have HO885 := n4_
                          have BK835 := n5_
                          have BK853 := n6_
                          have HI0 := n7_
                          have HK := n8_
                          have HB := n9_
                          clear n0_ n1_ n2_ n3_ n4_ n5_ n6_ n7_ n8_ n9_
                          have n0_ := Aside0.mk (Kd.N_drew HO_5.out)
                          have n1_ := Aside0.mk (Kd.R_drew HO856.out)
                          have n2_ := Aside0.mk (Kd.V_drew HL860_0.out)
                          have n3_ := Aside0.mk (Kd.R_drew HO863.out)
                          have n4_ := Aside0.mk (Kd.N_drew HO885.out)
                          have n5_ := Aside0.mk (blk_drew BK835.out)
                          have n6_ := Aside0.mk (blk_drew BK853.out)
                          have n7_ := Aside0.mk (IsS99.drew HI0.out)
                          have n8_ := Aside0.mk (keep_drew HK.out)
                          have n9_ := Aside0.mk (below_drew1 HB.out)
                          clear HO_5
                          clear HO856
                          clear HL860_0
                          clear HO863
                          clear HO885
                          clear BK835
                          clear BK853
                          clear HI0
                          clear HK
                          clear HB
                          have HO_5 := n0_
                          have HO856 := n1_
                          have HL860_0 := n2_
                          have HO863 := n3_
                          have HO885 := n4_
                          have BK835 := n5_
                          have BK853 := n6_
                          have HI0 := n7_
                          have HK := n8_
                          have HB := n9_
                          clear n0_ n1_ n2_ n3_ n4_ n5_ n6_ n7_ n8_ n9_
                          refine start_ (n := 6) (S := fun w' => w'.cell? ⟨gb853, 0, none⟩ = some (.int .i64 t848) ∧ w'.cell? ⟨gb853, 1, none⟩ = some (.int .i64 t849) ∧ w'.cell? ⟨gb853, 2, none⟩ = some (.slice Ao115 y883.length co115)) (ds := []) #[false, false, false, false, false, false] (by kernel_rfl) rfl rfl ⟨(blk_cell BK853.out 0).trans (by first | rfl | (simp only [*] <;> rfl)), (blk_cell BK853.out 1).trans (by first | rfl | (simp only [*] <;> rfl)), (blk_cell BK853.out 2).trans (by first | rfl | (simp only [*] <;> rfl))⟩ (fun hHeld => ?_)
                          generalize w117.drew = w118 at HO_5 HO856 HL860_0 HO863 HO885 BK835 BK853 HI0 HK HB hHeld ⊢
                          refine pure_ (i := 0) (N := some 94) (v := ?_) (a' := ?_) #[true, false, false, false, false, false] rfl rfl (by kernel_rfl) (fun _ _ _ h => h) (Or.inl ⟨by rfl, ?_⟩) ?_ ?_
                          rotate_left
                          · intro w'
                            go_simp
                            with_reducible rfl
                          rotate_left
                          · simp only [Act.put, List.setIfInBounds_toArray, List.set_cons_zero, List.set_cons_succ, i64_w, i32_w]
                            rfl
                          refine pure_ (i := 1) (N := some 95) (v := ?_) (a' := ?_) #[true, true, false, false, false, false] rfl rfl (by kernel_rfl) (fun _ _ _ h => h) (Or.inl ⟨by rfl, ?_⟩) ?_ ?_
                          rotate_left
                          · intro w'
                            go_simp
                            with_reducible rfl
                          rotate_left
                          · simp only [Act.put, List.setIfInBounds_toArray, List.set_cons_zero, List.set_cons_succ, i64_w, i32_w]
                            rfl
                          refine pure_ (i := 3) (N := some 2) (v := ?_) (a' := ?_) #[true, true, false, true, false, false] rfl rfl (by kernel_rfl) (fun _ _ _ h => h) (Or.inl ⟨by rfl, ?_⟩) ?_ ?_
                          rotate_left
                          · intro w'
                            go_simp
                            with_reducible rfl
                          rotate_left
                          · simp only [Act.put, List.setIfInBounds_toArray, List.set_cons_zero, List.set_cons_succ, i64_w, i32_w]
                            rfl
                          refine pure_ (i := 4) (N := some 3) (v := ?_) (a' := ?_) #[true, true, false, true, true, false] rfl rfl (by kernel_rfl) (fun _ _ _ h => h) (Or.inl ⟨by rfl, ?_⟩) ?_ ?_
                          rotate_left
                          · intro w'
                            go_simp
                            with_reducible rfl
                          rotate_left
                          · simp only [Act.put, List.setIfInBounds_toArray, List.set_cons_zero, List.set_cons_succ, i64_w, i32_w]
                            rfl
                          refine take_ (i := 2) (N := some 96) (v := ?_) (a' := ?_) #[true, true, true, true, true, false] rfl rfl (by kernel_rfl) (fun _ _ _ h => h) (Or.inl ⟨by rfl, ?_⟩) hHeld ?_ ?_
                          rotate_left
                          · rintro w' ⟨s0, s1, s2⟩
                            go_simp
                            with_reducible rfl
                          rotate_left
                          · simp only [Act.put, List.setIfInBounds_toArray, List.set_cons_zero, List.set_cons_succ, i64_w, i32_w]
                            rfl
                          refine one_ (i := 5) (N := none) #[true, true, true, true, true, true] rfl rfl (by kernel_rfl) (by decide) (fun K hK => ?_)
                          have hs119 : w118.cell? ⟨gb835, 0, none⟩ = some (.int .i64 0) := (blk_cell BK835.out 0).trans (by first | rfl | (simp only [*] <;> rfl))
                          have hfs119 := blk_frozen BK835.out 0
                          have hns119_1 := NB853_835.out
                          have hms119_1 := NB835_853.out
                          have hs120 : w118.cell? ⟨gb835, 1, none⟩ = some (.int .i64 0) := (blk_cell BK835.out 1).trans (by first | rfl | (simp only [*] <;> rfl))
                          have hfs120 := blk_frozen BK835.out 1
                          have hns120_1 := NB853_835.out
                          have hms120_1 := NB835_853.out
                          have hs121 : w118.cell? ⟨gb835, 2, none⟩ = some (.slice none 0 0) := (blk_cell BK835.out 2).trans (by first | rfl | (simp only [*] <;> rfl))
                          have hfs121 := blk_frozen BK835.out 2
                          have hns121_1 := NB853_835.out
                          have hms121_1 := NB835_853.out
                          refine skip_ (w1 := ?_) (by rfl) rfl ?_ ?_
                          rotate_left
                          · go_simp
                            rfl
                          refine hK.out _ _ ⟨((cell_far (p := ⟨gb835, _, none⟩) NB853_835.out _).trans (((cell_far (p := ⟨gb835, _, none⟩) NB853_835.out _).trans (((cell_far (p := ⟨gb835, _, none⟩) NB853_835.out _).trans (hHeld.1)))))), ((cell_far (p := ⟨gb835, _, none⟩) NB853_835.out _).trans (((cell_far (p := ⟨gb835, _, none⟩) NB853_835.out _).trans (((cell_far (p := ⟨gb835, _, none⟩) NB853_835.out _).trans (hHeld.2.1)))))), ((cell_far (p := ⟨gb835, _, none⟩) NB853_835.out _).trans (((cell_far (p := ⟨gb835, _, none⟩) NB853_835.out _).trans (((cell_far (p := ⟨gb835, _, none⟩) NB853_835.out _).trans (hHeld.2.2))))))⟩ (fun hHeld => ?_)
                          clear hK K
                          refine done_ (by kernel_rfl) ?_
                          try go_wp2
                          refine bodyPost_ret (results_list (rs := [.tmp 2, .tmp 3, .cell 4 25]) rfl (by simp) (.tmp (.tmp (.cell gb835 25 #[.int .i64 t848, .int .i64 t849, .slice Ao115 y883.length co115] (0, 0) _ rfl (by (with_reducible repeat (first | refine blk_drewN ?_ _ | refine blk_drew ?_ | refine blk_alloc ?_ _)); refine blk_put (cs := #[.int .i64 t848, .int .i64 t849, .slice none 0 0]) ?_ 2 _ rfl; (with_reducible repeat (first | refine blk_drewN ?_ _ | refine blk_drew ?_ | refine blk_alloc ?_ _)); refine blk_put (cs := #[.int .i64 t848, .int .i64 0, .slice none 0 0]) ?_ 1 _ rfl; (with_reducible repeat (first | refine blk_drewN ?_ _ | refine blk_drew ?_ | refine blk_alloc ?_ _)); refine blk_put (cs := #[.int .i64 0, .int .i64 0, .slice none 0 0]) ?_ 0 _ rfl; (with_reducible repeat (first | refine blk_drewN ?_ _ | refine blk_drew ?_ | refine blk_alloc ?_ _)); exact BK835.out) Try.underlying25 rfl (by kernel_rfl) .nil)))) rfl ?_
                          exact ⟨_, _, _, by first | rfl | (simp [errW_none, errW_some] <;> rfl) | (simp [*, errW_none, errW_some] <;> rfl), by (with_reducible repeat (first | apply Kd.R_alloc | apply Kd.R_drewN | apply Kd.R_drew)); exact Kd.R_mono (Kd.R_far (p := ⟨gb835, 2, none⟩) (Kd.R_far (p := ⟨gb835, 1, none⟩) (Kd.R_far (p := ⟨gb835, 0, none⟩) (Kd.R_types HO856.out BK835.out (by decide)) (fun _ hk => hk.2) (.int .i64 t848)) (fun _ hk => hk.2) (.int .i64 t849)) (fun _ hk => hk.2) (.slice Ao115 y883.length co115)) (fun _ hk => ⟨hk.1.1, hk.1.2⟩), by (with_reducible repeat (first | apply Kd.R_alloc | apply Kd.R_drewN | apply Kd.R_drew)); exact Kd.R_mono (Kd.R_far (p := ⟨gb835, 2, none⟩) (Kd.R_far (p := ⟨gb835, 1, none⟩) (Kd.R_far (p := ⟨gb835, 0, none⟩) (Kd.R_types HO863.out BK835.out (by decide)) (fun _ hk => hk.2) (.int .i64 t848)) (fun _ hk => hk.2) (.int .i64 t849)) (fun _ hk => hk.2) (.slice Ao115 y883.length co115)) (fun _ hk => ⟨hk.1.1, hk.1.2⟩), by (with_reducible repeat (first | apply Kd.N_alloc | apply Kd.N_drewN | apply Kd.N_drew)); exact Kd.N_mono (Kd.N_far (p := ⟨gb835, 2, none⟩) (Kd.N_far (p := ⟨gb835, 1, none⟩) (Kd.N_far (p := ⟨gb835, 0, none⟩) (Kd.N_mono HO885.out (fun k_ hk => (⟨hk, hk.2.2.2.2.1⟩ : _ ∧ k_ ≠ gb835))) (fun _ hk => hk.2) (.int .i64 t848)) (fun _ hk => hk.2) (.int .i64 t849)) (fun _ hk => hk.2) (.slice Ao115 y883.length co115)) (fun _ hk => ⟨hk.1.1, ⟨hk.1.2.2.1, hk.1.2.2.2.1⟩⟩), by repeat (first | (with_reducible first | exact HI0.out | apply IsS99.alloc | apply IsS99.drewN | apply IsS99.drew | apply IsS99.set_1 | refine IsS99.far ?_ NB0_835.out _ | refine IsS99.far ?_ NB0_853.out _) | exact HI0.out), by repeat (first | (with_reducible first | exact HB.out | apply below_alloc | apply pw_below_drewN | apply below_drew1 | refine below_set ?_ (IsS99.ge HI0.out) | refine below_set ?_ GE835.out | refine below_set ?_ GE853.out) | exact HB.out), by repeat (first | (with_reducible first | exact HK.out | apply KeepBut.set_ | apply keep_drewN | apply keep_drew | apply keep_alloc | refine keep_far ?_ GW835.out _ | refine keep_far ?_ GW853.out _) | exact HK.out)⟩
                        · rw [if_neg c97] at H
                          exact absurd H (by simp)
                      · rw [if_neg c95] at H
                        have c95b0 : (t864 == 3) = false := beq_eq_false_iff_ne.mpr c95
                        have c95b1 : (t864 != 3) = true := bne_iff_ne.mpr c95
                        by_cases c122 : t864 = 4
                        · rw [if_pos c122] at H
                          have c122b0 : (t864 == 4) = true := beq_iff_eq.mpr c122
                          have c122b1 : (t864 != 4) = false := bne_eq_false_iff_eq.mpr c122
                          clear c122
                          by_cases c123 : (t850.length : Int) > 0
                          · rw [if_pos c123] at H
                            have c123b0 : decide (0 < (t850.length : Int)) = true := decide_eq_true c123
                            have c123b1 : decide (0 < t850.length) = true := decide_eq_true (by omega)
                            clear c123
                            replace H := Option.bind_eq_some_iff.mp H
                            obtain ⟨⟨t886, t887⟩, A1240, H⟩ := H
                            replace H : ((spec_l1Some.f kj8 s0_0 t887 (wrap64 (32 - t886))).bind fun bt888 => (if 0 < (t850.length : Int) then (some (t854, y861, t848, t849, (t850.set (0 : Int).toNat bt888.1), bt888.2)) else (none))) = some (r1, r2, r3, r4, r5, r6) := H
                            have A124 := Aside0.mk A1240
                            clear A1240
                            replace H := Option.bind_eq_some_iff.mp H
                            obtain ⟨⟨t888, t891⟩, A1250, H⟩ := H
                            replace H : (if 0 < (t850.length : Int) then (some (t854, y861, t848, t849, (t850.set (0 : Int).toNat t888), t891)) else (none)) = some (r1, r2, r3, r4, r5, r6) := H
                            have A125 := Aside0.mk A1250
                            clear A1250
                            by_cases c126 : 0 < (t850.length : Int)
                            · rw [if_pos c126] at H
                              have c126b0 : decide (0 < (t850.length : Int)) = true := decide_eq_true c126
                              have c126b1 : decide (0 < t850.length) = true := decide_eq_true (by omega)
                              clear c126
                              obtain ⟨y892, hy892⟩ : ∃ y_ : List (List Int), y_ = (t850.set (0 : Int).toNat t888) := ⟨_, rfl⟩
                              replace H : (some (t854, y861, t848, t849, y892, t891)) = some (r1, r2, r3, r4, r5, r6) := by first | (rw [hy892]; with_reducible exact H) | (have H2_ := (Option.bind_some _ _).symm.trans H; rw [hy892]; with_reducible exact H2_) | (have H2_ := (Option.bind_some _ _).symm.trans H; with_reducible exact H2_) | with_reducible exact H | (rw [hy892]; exact H) | exact H
                              have Ny892 := Aside0.mk hy892
                              clear hy892
                              simp only [Option.some.injEq, Prod.mk.injEq] at H
                              obtain ⟨rfl, rfl, rfl, rfl, rfl, rfl⟩ := H
                              have hcz141_0 : w37.cell? ⟨gb853, 0, none⟩ = some (.int .i64 t848) := (blk_cell BK853.out 0).trans (by first | rfl | (simp only [*] <;> rfl))
                              have hcz141_1 : w37.cell? ⟨gb853, 1, none⟩ = some (.int .i64 t849) := (blk_cell BK853.out 1).trans (by first | rfl | (simp only [*] <;> rfl))
                              have hcz141_2 : w37.cell? ⟨gb853, 2, none⟩ = some (.slice Ao32 t850.length co32) := (blk_cell BK853.out 2).trans (by first | rfl | (simp only [*] <;> rfl))
                              have hfz141_0 := blk_frozen BK853.out 0
                              have hfz141_1 := blk_frozen BK853.out 1
                              have hfz141_2 := blk_frozen BK853.out 2
                              try go_wp2_with fail
                              have n0_ := Aside0.mk (Kd.N_drew HO_5.out)
                              have n1_ := Aside0.mk (Kd.N_drew HO852.out)
                              have n2_ := Aside0.mk (Kd.R_drew HO856.out)
                              have n3_ := Aside0.mk (Kd.V_drew HL860_0.out)
                              have n4_ := Aside0.mk (Kd.R_drew HO863.out)
                              have n5_ := Aside0.mk (blk_drew BK835.out)
                              have n6_ := Aside0.mk (blk_drew BK853.out)
                              have n7_ := Aside0.mk (IsS99.drew HI0.out)
                              have n8_ := Aside0.mk (keep_drew HK.out)
                              have n9_ := Aside0.mk (below_drew1 HB.out)
                              clear HO_5
                              clear HO852
                              clear HO856
                              clear HL860_0
                              clear HO863
                              clear BK835
                              clear BK853
                              clear HI0
                              clear HK
                              clear HB
                              have HO_5 := n0_
                              have HO852 := n1_
                              have HO856 := n2_
                              have HL860_0 := n3_
                              have HO863 := n4_
                              have BK835 := n5_
                              have BK853 := n6_
                              have HI0 := n7_
                              have HK := n8_
                              have HB := n9_
                              clear n0_ n1_ n2_ n3_ n4_ n5_ n6_ n7_ n8_ n9_
                              refine start_ (n := 9) (S := fun w' => w'.cell? ⟨gb853, 0, none⟩ = some (.int .i64 t848) ∧ w'.cell? ⟨gb853, 1, none⟩ = some (.int .i64 t849) ∧ w'.cell? ⟨gb853, 2, none⟩ = some (.slice Ao32 t850.length co32)) (ds := [8]) #[false, false, false, false, false, false, false, false, false] (by kernel_rfl) rfl rfl ⟨(blk_cell BK853.out 0).trans (by first | rfl | (simp only [*] <;> rfl)), (blk_cell BK853.out 1).trans (by first | rfl | (simp only [*] <;> rfl)), (blk_cell BK853.out 2).trans (by first | rfl | (simp only [*] <;> rfl))⟩ (fun hHeld => ?_); refine with_tabW spec_l3Draw.tab19 spec_l3Draw.bits19 (fun HT_ HW_ => ?_)
                              generalize w37.drew = w142 at HO_5 HO852 HO856 HL860_0 HO863 BK835 BK853 HI0 HK HB hHeld ⊢
                              refine pure_ (i := 0) (N := some 82) (v := ?_) (a' := ?_) #[true, false, false, false, false, false, false, false, false] rfl rfl (any_of HT_.out (by kernel_rfl)) (fun _ _ _ h => h) (Or.inl ⟨by rfl, ?_⟩) ?_ ?_
                              rotate_left
                              · intro w'
                                go_simp
                                with_reducible rfl
                              rotate_left
                              · simp only [Act.put, List.setIfInBounds_toArray, List.set_cons_zero, List.set_cons_succ, i64_w, i32_w]
                                rfl
                              refine pure_ (i := 2) (N := some 84) (v := ?_) (a' := ?_) #[true, false, true, false, false, false, false, false, false] rfl rfl (any_of HT_.out (by kernel_rfl)) (fun _ _ _ h => h) (Or.inl ⟨by rfl, ?_⟩) ?_ ?_
                              rotate_left
                              · intro w'
                                go_simp
                                with_reducible rfl
                              rotate_left
                              · simp only [Act.put, List.setIfInBounds_toArray, List.set_cons_zero, List.set_cons_succ, i64_w, i32_w]
                                rfl
                              refine pure_ (i := 3) (N := some 85) (v := ?_) (a' := ?_) #[true, false, true, true, false, false, false, false, false] rfl rfl (any_of HT_.out (by kernel_rfl)) (fun _ _ _ h => h) (Or.inl ⟨by rfl, ?_⟩) ?_ ?_
                              rotate_left
                              · intro w'
                                go_simp
                                with_reducible rfl
                              rotate_left
                              · simp only [Act.put, List.setIfInBounds_toArray, List.set_cons_zero, List.set_cons_succ, i64_w, i32_w]
                                rfl
                              refine take_ (i := 1) (N := some 83) (v := ?_) (a' := ?_) #[true, true, true, true, false, false, false, false, false] rfl rfl (take_ofW HT_.out HW_.out (by kernel_rfl)) (fun _ _ _ h => h) (Or.inl ⟨by rfl, ?_⟩) hHeld ?_ ?_
                              rotate_left
                              · rintro w' ⟨s0, s1, s2⟩
                                go_simp
                                with_reducible rfl
                              rotate_left
                              · simp only [Act.put, List.setIfInBounds_toArray, List.set_cons_zero, List.set_cons_succ, i64_w, i32_w]
                                rfl
                              refine one_ (i := 4) (N := some 86) #[true, true, true, true, true, false, false, false, false] rfl rfl (one_of HT_.out (by kernel_rfl)) (by decide) (fun K hK => ?_)
                              refine goes_ Try.func58 (by kernel_rfl) rfl #[.pointer (some ⟨g, 0, none⟩), .int .i64 2] (by rfl) rfl rfl (by (try simp only [List.map_toArray, List.map_cons, List.map_nil]); first | done | rfl | (simp only [List.length_drop, List.length_take]; rfl)) ?_
                              with_reducible refine (spec_l1Next.calls g s0_0 t865 2 t886 t887 w0 _ ?side1 ?side2 A124.out).mono ?_
                              (case side1 => repeat (first | (with_reducible first | exact HI0.out | apply IsS99.alloc | apply IsS99.drewN | apply IsS99.drew | apply IsS99.set_1 | refine IsS99.far ?_ NB0_835.out _ | refine IsS99.far ?_ NB0_853.out _) | exact HI0.out))
                              (case side2 => repeat (first | (with_reducible first | exact HB.out | apply below_alloc | apply pw_below_drewN | apply below_drew1 | refine below_set ?_ (IsS99.ge HI0.out) | refine below_set ?_ GE835.out | refine below_set ?_ GE853.out) | exact HB.out))
                              rintro e w143 ⟨rfl, hi, hb, hk⟩
                              refine ⟨_, rfl, ?_⟩
                              have n0_ := Aside0.mk (Kd.N_mono (Kd.N_keep (Kd.N_mono (ok := fun k_ => ((((w.heap.size ≤ k_)) ∧ (some k_ ≠ (.slice Ao32 t850.length co32 : Value).ownBlock ∧ (some k_ ≠ (v855 : Value).ownBlock ∧ (k_ ≠ gb835 ∧ (k_ ≠ g ∧ k_ ≠ gb853))))) ∧ some k_ ≠ (v862 : Value).ownBlock)) (by (with_reducible repeat (first | apply Kd.N_alloc | apply Kd.N_drewN | apply Kd.N_drew)); exact HO_5.out) (fun k_ hk_ => (⟨hk_, hk_.1.2.2.2.2.1⟩ : _ ∧ k_ ≠ g))) hk (fun _ h => h.2)) (fun _ h => h.1))
                              have n1_ := Aside0.mk (KeepBut.blk hk (g' := gb835) (o := .cells #[.int .i64 0, .int .i64 0, .slice none 0 0] 25 (0, 0)) (by (with_reducible repeat (first | refine blk_drewN ?_ _ | refine blk_drew ?_ | refine blk_alloc ?_ _)); exact BK835.out) NB835_0.out (by simp))
                              have n2_ := Aside0.mk (Kd.N_mono (Kd.N_keep (Kd.N_mono (ok := fun k_ => ((((w.heap.size ≤ k_)) ∧ (some k_ ≠ (.slice (some ad860) x5_8.length co25 : Value).ownBlock ∧ (some k_ ≠ (v855 : Value).ownBlock ∧ (k_ ≠ gb835 ∧ (k_ ≠ g ∧ k_ ≠ gb853))))) ∧ some k_ ≠ (v862 : Value).ownBlock)) (by (with_reducible repeat (first | apply Kd.N_alloc | apply Kd.N_drewN | apply Kd.N_drew)); exact HO852.out) (fun k_ hk_ => (⟨hk_, hk_.1.2.2.2.2.1⟩ : _ ∧ k_ ≠ g))) hk (fun _ h => h.2)) (fun _ h => h.1))
                              have n3_ := Aside0.mk (KeepBut.blk hk (g' := gb853) (o := .cells #[.int .i64 t848, .int .i64 t849, .slice Ao32 t850.length co32] 25 (0, 0)) (by (with_reducible repeat (first | refine blk_drewN ?_ _ | refine blk_drew ?_ | refine blk_alloc ?_ _)); exact BK853.out) NB853_0.out (by simp))
                              have n4_ := Aside0.mk (Kd.R_mono (Kd.R_keep (IsS99.apart (show IsS99 w0 _ g s0_0 t865 from by repeat (first | (with_reducible first | exact HI0.out | apply IsS99.alloc | apply IsS99.drewN | apply IsS99.drew | apply IsS99.set_1 | refine IsS99.far ?_ NB0_835.out _ | refine IsS99.far ?_ NB0_853.out _) | exact HI0.out)) (by (with_reducible repeat (first | apply Kd.R_alloc | apply Kd.R_drewN | apply Kd.R_drew)); exact HO856.out) (by decide)) hk (fun _ h => h.2)) (fun _ h => h.1))
                              have n5_ := Aside0.mk (Kd.V_mono (Kd.V_keep (Kd.V_mono (ok := fun k_ => ((((w.heap.size ≤ k_)) ∧ (some k_ ≠ (.slice (some ad860) x5_8.length co25 : Value).ownBlock ∧ (some k_ ≠ (.slice Ao32 t850.length co32 : Value).ownBlock ∧ (some k_ ≠ (v855 : Value).ownBlock ∧ (k_ ≠ gb835 ∧ (k_ ≠ g ∧ k_ ≠ gb853)))))) ∧ some k_ ≠ (v862 : Value).ownBlock)) (by (with_reducible repeat (first | apply Kd.V_alloc | apply Kd.V_drewN | apply Kd.V_drew)); exact HL860_0.out) (fun k_ hk_ => (⟨hk_, hk_.1.2.2.2.2.2.1⟩ : _ ∧ k_ ≠ g))) hk (fun _ h => h.2)) (fun _ h => h.1))
                              have n6_ := Aside0.mk (Kd.R_mono (Kd.R_keep (IsS99.apart (show IsS99 w0 _ g s0_0 t865 from by repeat (first | (with_reducible first | exact HI0.out | apply IsS99.alloc | apply IsS99.drewN | apply IsS99.drew | apply IsS99.set_1 | refine IsS99.far ?_ NB0_835.out _ | refine IsS99.far ?_ NB0_853.out _) | exact HI0.out)) (by (with_reducible repeat (first | apply Kd.R_alloc | apply Kd.R_drewN | apply Kd.R_drew)); exact HO863.out) (by decide)) hk (fun _ h => h.2)) (fun _ h => h.1))
                              have n7_ := Aside0.mk (KeepBut.trans (by repeat (first | (with_reducible first | exact HK.out | apply KeepBut.set_ | apply keep_drewN | apply keep_drew | apply keep_alloc | refine keep_far ?_ GW835.out _ | refine keep_far ?_ GW853.out _) | exact HK.out)) hk (.inl rfl))
                              have n8_ := Aside0.mk (hb)
                              have n9_ := Aside0.mk (hi)
                              clear HO_5
                              clear BK835
                              clear HO852
                              clear BK853
                              clear HO856
                              clear HL860_0
                              clear HO863
                              clear HK
                              clear HB
                              clear HI0
                              have HO_5 := n0_
                              have BK835 := n1_
                              have HO852 := n2_
                              have BK853 := n3_
                              have HO856 := n4_
                              have HL860_0 := n5_
                              have HO863 := n6_
                              have HK := n7_
                              have HB := n8_
                              have HI0 := n9_
                              clear n0_ n1_ n2_ n3_ n4_ n5_ n6_ n7_ n8_ n9_
                              (try clear hb)
                              (try clear hb2)
                              (try clear hk)
                              (try clear hi)
                              refine hK.out _ _ ⟨(blk_cell BK853.out 0).trans (by first | rfl | (simp only [*] <;> rfl)), (blk_cell BK853.out 1).trans (by first | rfl | (simp only [*] <;> rfl)), (blk_cell BK853.out 2).trans (by first | rfl | (simp only [*] <;> rfl))⟩ (fun hHeld => ?_)
                              clear hK K
                              refine norm_ (a' := ?_) ?_ ?_
                              rotate_left
                              · show Act.put _ (some 86) _ = _
                                simp only [Act.put, List.setIfInBounds_toArray, List.set_cons_zero, List.set_cons_succ, i64_w, i32_w]
                                rfl
                              refine pure_ (i := 5) (N := some 87) (v := ?_) (a' := ?_) #[true, true, true, true, true, true, false, false, false] rfl rfl (any_of HT_.out (by kernel_rfl)) (fun _ _ _ h => h) (Or.inl ⟨by rfl, ?_⟩) ?_ ?_
                              rotate_left
                              · intro w'
                                go_simp
                                with_reducible rfl
                              rotate_left
                              · simp only [Act.put, List.setIfInBounds_toArray, List.set_cons_zero, List.set_cons_succ, i64_w, i32_w]
                                rfl
                              refine one_ (i := 6) (N := some 88) #[true, true, true, true, true, true, true, false, false] rfl rfl (one_of HT_.out (by kernel_rfl)) (by decide) (fun K hK => ?_)
                              refine goes_ Try.func85 (by kernel_rfl) rfl #[.pointer (some ⟨g, 0, none⟩), .int .i64 (wrap64 (32 - t886))] (by rfl) rfl rfl (by (try simp only [List.map_toArray, List.map_cons, List.map_nil]); first | done | rfl | (simp only [List.length_drop, List.length_take]; rfl)) ?_
                              with_reducible refine (spec_l1Some.calls kj8 g s0_0 t887 (wrap64 (32 - t886)) t888 t891 w0 _ ?side1 ?side2 A125.out).mono ?_
                              (case side1 => repeat (first | (with_reducible first | exact HI0.out | apply IsS99.alloc | apply IsS99.drewN | apply IsS99.drew | apply IsS99.set_1 | refine IsS99.far ?_ NB0_835.out _ | refine IsS99.far ?_ NB0_853.out _) | exact HI0.out))
                              (case side2 => repeat (first | (with_reducible first | exact HB.out | apply below_alloc | apply pw_below_drewN | apply below_drew1 | refine below_set ?_ (IsS99.ge HI0.out) | refine below_set ?_ GE835.out | refine below_set ?_ GE853.out) | exact HB.out))
                              rintro e w144 ⟨v889, rfl, ho0, hi, hb, hk⟩
                              refine ⟨_, rfl, ?_⟩
                              have n0_ := Aside0.mk (Kd.N_mono (Kd.N_told (Kd.N_oldK (Kd.N_mono (ok := fun k_ => ((((w.heap.size ≤ k_)) ∧ (some k_ ≠ (.slice Ao32 t850.length co32 : Value).ownBlock ∧ (some k_ ≠ (v855 : Value).ownBlock ∧ (k_ ≠ gb835 ∧ (k_ ≠ g ∧ k_ ≠ gb853))))) ∧ some k_ ≠ (v862 : Value).ownBlock)) (by (with_reducible repeat (first | apply Kd.N_alloc | apply Kd.N_drewN | apply Kd.N_drew)); exact HO_5.out) (fun k_ hk_ => (⟨hk_, hk_.1.2.2.2.2.1⟩ : _ ∧ k_ ≠ g))) hk) (Kd.R_base ho0)) (fun _ h_ => h_.1))
                              have n1_ := Aside0.mk (KeepBut.blk hk (g' := gb835) (o := .cells #[.int .i64 0, .int .i64 0, .slice none 0 0] 25 (0, 0)) (by (with_reducible repeat (first | refine blk_drewN ?_ _ | refine blk_drew ?_ | refine blk_alloc ?_ _)); exact BK835.out) NB835_0.out (by simp))
                              have n2_ := Aside0.mk (Kd.N_mono (Kd.N_told (Kd.N_oldK (Kd.N_mono (ok := fun k_ => ((((w.heap.size ≤ k_)) ∧ (some k_ ≠ (.slice (some ad860) x5_8.length co25 : Value).ownBlock ∧ (some k_ ≠ (v855 : Value).ownBlock ∧ (k_ ≠ gb835 ∧ (k_ ≠ g ∧ k_ ≠ gb853))))) ∧ some k_ ≠ (v862 : Value).ownBlock)) (by (with_reducible repeat (first | apply Kd.N_alloc | apply Kd.N_drewN | apply Kd.N_drew)); exact HO852.out) (fun k_ hk_ => (⟨hk_, hk_.1.2.2.2.2.1⟩ : _ ∧ k_ ≠ g))) hk) (Kd.R_base ho0)) (fun _ h_ => h_.1))
                              have n3_ := Aside0.mk (KeepBut.blk hk (g' := gb853) (o := .cells #[.int .i64 t848, .int .i64 t849, .slice Ao32 t850.length co32] 25 (0, 0)) (by (with_reducible repeat (first | refine blk_drewN ?_ _ | refine blk_drew ?_ | refine blk_alloc ?_ _)); exact BK853.out) NB853_0.out (by simp))
                              have n4_ := Aside0.mk (Kd.R_mono (Kd.R_told (Kd.R_oldK (IsS99.apart (show IsS99 w0 _ g s0_0 t887 from by repeat (first | (with_reducible first | exact HI0.out | apply IsS99.alloc | apply IsS99.drewN | apply IsS99.drew | apply IsS99.set_1 | refine IsS99.far ?_ NB0_835.out _ | refine IsS99.far ?_ NB0_853.out _) | exact HI0.out)) (by (with_reducible repeat (first | apply Kd.R_alloc | apply Kd.R_drewN | apply Kd.R_drew)); exact HO856.out) (by decide)) hk) (Kd.R_base ho0)) (fun _ h_ => h_.1))
                              have n5_ := Aside0.mk (Kd.V_mono (Kd.V_told (Kd.V_oldK (Kd.V_mono (ok := fun k_ => ((((w.heap.size ≤ k_)) ∧ (some k_ ≠ (.slice (some ad860) x5_8.length co25 : Value).ownBlock ∧ (some k_ ≠ (.slice Ao32 t850.length co32 : Value).ownBlock ∧ (some k_ ≠ (v855 : Value).ownBlock ∧ (k_ ≠ gb835 ∧ (k_ ≠ g ∧ k_ ≠ gb853)))))) ∧ some k_ ≠ (v862 : Value).ownBlock)) (by (with_reducible repeat (first | apply Kd.V_alloc | apply Kd.V_drewN | apply Kd.V_drew)); exact HL860_0.out) (fun k_ hk_ => (⟨hk_, hk_.1.2.2.2.2.2.1⟩ : _ ∧ k_ ≠ g))) hk) (Kd.R_base ho0)) (fun _ h_ => h_.1))
                              have n6_ := Aside0.mk (Kd.R_mono (Kd.R_told (Kd.R_oldK (IsS99.apart (show IsS99 w0 _ g s0_0 t887 from by repeat (first | (with_reducible first | exact HI0.out | apply IsS99.alloc | apply IsS99.drewN | apply IsS99.drew | apply IsS99.set_1 | refine IsS99.far ?_ NB0_835.out _ | refine IsS99.far ?_ NB0_853.out _) | exact HI0.out)) (by (with_reducible repeat (first | apply Kd.R_alloc | apply Kd.R_drewN | apply Kd.R_drew)); exact HO863.out) (by decide)) hk) (Kd.R_base ho0)) (fun _ h_ => h_.1))
                              have n7_ := Aside0.mk (Kd.R_lower (Kd.R_new' (Kd.R_new' (Kd.R_newM (M := fun k_ => (w.heap.size ≤ k_)) ho0 (keep_size (w := w) (g := g) (row := none) (by repeat (first | (with_reducible first | exact HK.out | apply KeepBut.set_ | apply keep_drewN | apply keep_drew | apply keep_alloc | refine keep_far ?_ GW835.out _ | refine keep_far ?_ GW853.out _) | exact HK.out))) (fun k_ h_ => h_)) (Kd.R_lt (by (with_reducible repeat (first | apply Kd.R_alloc | apply Kd.R_drewN | apply Kd.R_drew)); exact HO856.out))) (Kd.R_lt (by (with_reducible repeat (first | apply Kd.R_alloc | apply Kd.R_drewN | apply Kd.R_drew)); exact HO863.out))) (keep_size (w := w) (g := g) (row := none) (by repeat (first | (with_reducible first | exact HK.out | apply KeepBut.set_ | apply keep_drewN | apply keep_drew | apply keep_alloc | refine keep_far ?_ GW835.out _ | refine keep_far ?_ GW853.out _) | exact HK.out))))
                              have n8_ := Aside0.mk (KeepBut.trans (by repeat (first | (with_reducible first | exact HK.out | apply KeepBut.set_ | apply keep_drewN | apply keep_drew | apply keep_alloc | refine keep_far ?_ GW835.out _ | refine keep_far ?_ GW853.out _) | exact HK.out)) hk (.inl rfl))
                              have n9_ := Aside0.mk (hb)
                              have n10_ := Aside0.mk (hi)
                              clear HO_5
                              clear BK835
                              clear HO852
                              clear BK853
                              clear HO856
                              clear HL860_0
                              clear HO863
                              clear HK
                              clear HB
                              clear HI0
                              have HO_5 := n0_
                              have BK835 := n1_
                              have HO852 := n2_
                              have BK853 := n3_
                              have HO856 := n4_
                              have HL860_0 := n5_
                              have HO863 := n6_
                              have HO890 := n7_
                              have HK := n8_
                              have HB := n9_
                              have HI0 := n10_
                              clear n0_ n1_ n2_ n3_ n4_ n5_ n6_ n7_ n8_ n9_ n10_
                              (try clear hb)
                              (try clear hb2)
                              (try clear hk)
                              (try clear hi)
                              (try clear ho0)
                              have p127 : 0 ≤ (0 : Int) := (by omega)
                              have q127 : (0 : Int) < ((t850.length : Int) : Int) := of_decide_eq_true (by first | (with_reducible assumption) | assumption)
                              have qi127 : (0 < t850.length) = True := eq_true (by omega)
                              obtain ⟨go127, co127, eo127, gb127, gl127, cl127, HG127⟩ := Kd.N_form HO852.out (by omega)
                              (first | cases eo127 | (injection eo127 with ea_ en_ ec_; (first | subst ea_ | (injection ea_ with ea_; subst ea_)); subst ec_; clear en_))
                              have GB127 := Aside0.mk gb127
                              have GG127 := Aside0.mk HG127
                              clear gb127 gl127 HG127
                              obtain ⟨ce127, hcl127, hM127, hcc127, hfr127⟩ := Kd.N_elem HO852.out [] (0 : Int) p127 q127
                              obtain ⟨ua127_0, uc127_0, rfl, ul127_0, ge127_0⟩ := Kd.FK_slice_open hM127
                              have hx127_0 := hcc127 0 _ rfl
                              have hf127_0 := hfr127 0
                              (try simp only [show ((Kd.slice 5 (Kd.int .u8))).sz = 1 from rfl, Nat.mul_one, Nat.add_zero] at hx127_0)
                              (try simp only [show ((Kd.slice 5 (Kd.int .u8))).sz = 1 from rfl, Nat.mul_one, Nat.add_zero] at hf127_0)
                              (try clear hM127); clear hcl127 hcc127 hfr127
                              (try rw [show ((0 : Int)).toNat = 0 from rfl] at hx127_0)
                              (try simp only [Nat.reduceMul, Nat.zero_mul, Nat.zero_add, Nat.reduceAdd] at hx127_0)
                              (try rw [show ((0 : Int)).toNat = 0 from rfl] at hf127_0)
                              (try simp only [Nat.reduceMul, Nat.zero_mul, Nat.zero_add, Nat.reduceAdd] at hf127_0)
                              replace p127 := eq_true p127
                              replace q127 := eq_true q127
                              have HN0_go127 := Aside0.mk (show g ≠ go127 from by have h_ := IsS99.own_neN HI0.out HO852.out (by decide); intro e_; exact h_ (by rw [e_]; rfl))
                              have HX145 := Aside0.mk (show Kd.N (Kd.slice 5 (Kd.int .u8)) 22 _ w.heap.size (fun k_ => (w.heap.size ≤ k_) ∧ some k_ ≠ (.slice (some ad860) x5_8.length co25 : Value).ownBlock ∧ some k_ ≠ (v855 : Value).ownBlock ∧ some k_ ≠ (v862 : Value).ownBlock ∧ some k_ ≠ (v889 : Value).ownBlock ∧ k_ ≠ gb835 ∧ k_ ≠ gb853 ∧ k_ ≠ g) (.slice (some ⟨go127, 0, none⟩) t850.length co32) t850 from (Kd.N_mono (HO852.out) (fun k_ hk => ⟨hk.1.1.1, ⟨hk.1.1.2.1, ⟨hk.1.1.2.2.1, ⟨hk.1.2, ⟨hk.2, ⟨hk.1.1.2.2.2.1, ⟨hk.1.1.2.2.2.2.2, hk.1.1.2.2.2.2.1⟩⟩⟩⟩⟩⟩⟩)))
                              replace HX145 := Aside0.mk (show Kd.N (Kd.slice 5 (Kd.int .u8)) 22 _ w.heap.size (fun k_ => (w.heap.size ≤ k_) ∧ some k_ ≠ (.slice (some ad860) x5_8.length co25 : Value).ownBlock ∧ some k_ ≠ (v855 : Value).ownBlock ∧ some k_ ≠ (v862 : Value).ownBlock ∧ k_ ≠ gb835 ∧ k_ ≠ gb853 ∧ k_ ≠ g) (.slice (some ⟨go127, 0, none⟩) t850.length co32) t850 from Kd.N_mono HX145.out (fun k_ hk => ⟨hk.1, ⟨hk.2.1, ⟨hk.2.2.1, ⟨hk.2.2.2.1, ⟨hk.2.2.2.2.2.1, ⟨hk.2.2.2.2.2.2.1, hk.2.2.2.2.2.2.2⟩⟩⟩⟩⟩⟩))
                              obtain ⟨ce145, hcl145, hM145, hcc145, hfr145⟩ := Kd.N_elem HX145.out [] (0 : Int) (by omega) (by have h_ : (0 : Int) < ((t850.length : Int) : Int) := of_decide_eq_true (by first | (with_reducible assumption) | assumption); first | exact h_ | (have e_ := (Kd.N_reads' HO852.out).1; omega) | simpa using h_)
                              obtain ⟨ua145_0, uc145_0, rfl, ul145_0, ge145_0⟩ := Kd.FK_slice_open hM145
                              obtain ⟨Av_, cv_, ev_⟩ := Kd.R_slice HO890.out
                              subst ev_
                              have HP145 := (Kd.N_seg HX145.out (0 : Int) (by omega) (by have h_ : (0 : Int) < ((t850.length : Int) : Int) := of_decide_eq_true (by first | (with_reducible assumption) | assumption); first | exact h_ | (have e_ := (Kd.N_reads' HO852.out).1; omega) | simpa using h_) (seg := [(.slice Av_ t888.length cv_)]) (j := 0) hcl145 hcc145 (show 1 ≤ 1 from by decide) (x' := t888) (Kd.FK_slice_mk (Kd.R_reads' (Kd.R_mono (ok' := (fun k_ => ((fun k_ => (w.heap.size ≤ k_) ∧ some k_ ≠ (.slice (some ad860) x5_8.length co25 : Value).ownBlock ∧ some k_ ≠ (v855 : Value).ownBlock ∧ some k_ ≠ (v862 : Value).ownBlock ∧ k_ ≠ gb835 ∧ k_ ≠ gb853 ∧ k_ ≠ g)) k_ ∧ k_ ≠ go127)) (IsS99.apart HI0.out (Kd.R_types (Kd.R_types (Kd.R_apart' (Kd.R_apart' (HO890.out) (Kd.N_typed HO_5.out) (by decide)) (Kd.N_typed HO852.out) (by decide)) BK835.out (by decide)) BK853.out (by decide)) (by decide)) (fun k_ hk => ⟨⟨hk.1.1.1.1.1.1.1.1, ⟨hk.1.1.1.1.2, ⟨hk.1.1.1.1.1.1.2, ⟨hk.1.1.1.1.1.2, ⟨hk.1.1.2, ⟨hk.1.2, hk.2⟩⟩⟩⟩⟩⟩, fun e_ => (hk.1.1.1.2) (by rw [e_]; rfl)⟩))).2.1 (Kd.R_F (Kd.R_mono (ok' := (fun k_ => ((fun k_ => (w.heap.size ≤ k_) ∧ some k_ ≠ (.slice (some ad860) x5_8.length co25 : Value).ownBlock ∧ some k_ ≠ (v855 : Value).ownBlock ∧ some k_ ≠ (v862 : Value).ownBlock ∧ k_ ≠ gb835 ∧ k_ ≠ gb853 ∧ k_ ≠ g)) k_ ∧ k_ ≠ go127)) (IsS99.apart HI0.out (Kd.R_types (Kd.R_types (Kd.R_apart' (Kd.R_apart' (HO890.out) (Kd.N_typed HO_5.out) (by decide)) (Kd.N_typed HO852.out) (by decide)) BK835.out (by decide)) BK853.out (by decide)) (by decide)) (fun k_ hk => ⟨⟨hk.1.1.1.1.1.1.1.1, ⟨hk.1.1.1.1.2, ⟨hk.1.1.1.1.1.1.2, ⟨hk.1.1.1.1.1.2, ⟨hk.1.1.2, ⟨hk.1.2, hk.2⟩⟩⟩⟩⟩⟩, fun e_ => (hk.1.1.1.2) (by rw [e_]; rfl)⟩)))) (fun _ hk => hk)).1
                              (try simp only [show ((Kd.slice 5 (Kd.int .u8))).sz = 1 from rfl, Nat.mul_one, Nat.add_zero] at HP145)
                              rw [← Ny892.out] at HP145
                              have HQ145 := Aside0.mk HP145
                              clear hcl145 hcc145 hfr145 hM145 HP145
                              refine hK.out _ _ ⟨(blk_cell BK853.out 0).trans (by first | rfl | (simp only [*] <;> rfl)), (blk_cell BK853.out 1).trans (by first | rfl | (simp only [*] <;> rfl)), (blk_cell BK853.out 2).trans (by first | rfl | (simp only [*] <;> rfl))⟩ (fun hHeld => ?_)
                              clear hK K
                              refine norm_ (a' := ?_) ?_ ?_
                              rotate_left
                              · show Act.put _ (some 88) _ = _
                                simp only [Act.put, List.setIfInBounds_toArray, List.set_cons_zero, List.set_cons_succ, i64_w, i32_w]
                                rfl
                              refine pure_ (i := 7) (N := some 89) (v := ?_) (a' := ?_) #[true, true, true, true, true, true, true, true, false] rfl rfl (any_of HT_.out (by kernel_rfl)) (fun _ _ _ h => h) (Or.inl ⟨by rfl, ?_⟩) ?_ ?_
                              rotate_left
                              · intro w'
                                go_simp
                                with_reducible rfl
                              rotate_left
                              · simp only [Act.put, List.setIfInBounds_toArray, List.set_cons_zero, List.set_cons_succ, i64_w, i32_w]
                                rfl
                              refine last_ (i := 8) (N := none) #[true, true, true, true, true, true, true, true, true] rfl rfl (one_of HT_.out (by kernel_rfl)) (by decide) (fun K hK => ?_)
                              refine skip_ (w1 := ?_) (by rfl) rfl ?_ ?_
                              rotate_left
                              · go_simp
                                rfl
                              refine hK.out _ _ ?_
                              clear hK K
                              refine done_ (done_of HT_.out (by kernel_rfl)) ?_
                              have n0_ : Aside0 (Kd.N (Kd.slice 5 (Kd.int .u8)) 22 (w144.setCell ⟨go127, 0, none⟩ ((.slice Av_ t888.length cv_))) w.heap.size (fun k_ => (w.heap.size ≤ k_) ∧ some k_ ≠ (.slice (some ⟨go127, 0, none⟩) t850.length co32 : Value).ownBlock ∧ some k_ ≠ (v855 : Value).ownBlock ∧ some k_ ≠ (v862 : Value).ownBlock ∧ k_ ≠ gb835 ∧ k_ ≠ g ∧ k_ ≠ gb853) (.slice (some ad860) x5_8.length co25) x5_8) := ⟨by (with_reducible repeat (first | apply Kd.N_alloc | apply Kd.N_drewN | apply Kd.N_drew)); exact Kd.N_mono (Kd.N_far (p := ⟨go127, 0, none⟩) (Kd.N_mono HO_5.out (fun k_ hk => (⟨hk, fun e_ => hk.1.1.2.1 (by rw [e_]; rfl)⟩ : _ ∧ k_ ≠ go127))) (fun _ hk => hk.2) ((.slice Av_ t888.length cv_))) (fun _ hk => ⟨hk.1.1.1.1, ⟨hk.1.1.1.2.1, ⟨hk.1.1.1.2.2.1, ⟨hk.1.1.2, ⟨hk.1.1.1.2.2.2.1, ⟨hk.1.1.1.2.2.2.2.1, hk.1.1.1.2.2.2.2.2⟩⟩⟩⟩⟩⟩)⟩
                              have n1_ : Aside0 (Kd.N (Kd.slice 5 (Kd.int .u8)) 22 (w144.setCell ⟨go127, 0, none⟩ ((.slice Av_ t888.length cv_))) w.heap.size (fun k_ => (w.heap.size ≤ k_) ∧ some k_ ≠ (.slice (some ad860) x5_8.length co25 : Value).ownBlock ∧ some k_ ≠ (v855 : Value).ownBlock ∧ some k_ ≠ (v862 : Value).ownBlock ∧ k_ ≠ gb835 ∧ k_ ≠ g ∧ k_ ≠ gb853) (.slice (some ⟨go127, 0, none⟩) t850.length co32) y892) := ⟨by (with_reducible repeat (first | apply Kd.N_alloc | apply Kd.N_drewN | apply Kd.N_drew)); exact Kd.N_mono HQ145.out (fun _ hk => ⟨hk.1, ⟨hk.2.1, ⟨hk.2.2.1, ⟨hk.2.2.2.1, ⟨hk.2.2.2.2.1, ⟨hk.2.2.2.2.2.2, hk.2.2.2.2.2.1⟩⟩⟩⟩⟩⟩)⟩
                              have n2_ : Aside0 (Kd.R (Kd.int .u8) 5 (w144.setCell ⟨go127, 0, none⟩ ((.slice Av_ t888.length cv_))) w.heap.size (fun k_ => (w.heap.size ≤ k_) ∧ some k_ ≠ (v862 : Value).ownBlock) v855 t854) := ⟨by (with_reducible repeat (first | apply Kd.R_alloc | apply Kd.R_drewN | apply Kd.R_drew)); exact Kd.R_mono (Kd.R_far (p := ⟨go127, 0, none⟩) (Kd.R_types HO856.out GG127.out (by decide)) (fun _ hk => hk.2) ((.slice Av_ t888.length cv_))) (fun _ hk => ⟨hk.1.1.1, hk.1.1.2⟩)⟩
                              have n3_ : Aside0 (Kd.V (Kd.int .u8) 5 (w144.setCell ⟨go127, 0, none⟩ ((.slice Av_ t888.length cv_))) w.heap.size (fun k_ => (w.heap.size ≤ k_) ∧ some k_ ≠ (.slice (some ad860) x5_8.length co25 : Value).ownBlock ∧ some k_ ≠ (.slice (some ⟨go127, 0, none⟩) t850.length co32 : Value).ownBlock ∧ some k_ ≠ (v855 : Value).ownBlock ∧ some k_ ≠ (v862 : Value).ownBlock ∧ k_ ≠ gb835 ∧ k_ ≠ g ∧ k_ ≠ gb853) (.slice A860_0 (rd_L1 x5_8 t846).length c860_0) (rd_L1 x5_8 t846)) := ⟨by (with_reducible repeat (first | apply Kd.V_alloc | apply Kd.V_drewN | apply Kd.V_drew)); exact Kd.V_mono (Kd.V_far (p := ⟨go127, 0, none⟩) (Kd.V_mono HL860_0.out (fun k_ hk => (⟨hk, fun e_ => hk.1.1.2.2.1 (by rw [e_]; rfl)⟩ : _ ∧ k_ ≠ go127))) (fun _ hk => hk.2) ((.slice Av_ t888.length cv_))) (fun _ hk => ⟨hk.1.1.1.1, ⟨hk.1.1.1.2.1, ⟨hk.1.1.1.2.2.1, ⟨hk.1.1.1.2.2.2.1, ⟨hk.1.1.2, ⟨hk.1.1.1.2.2.2.2.1, ⟨hk.1.1.1.2.2.2.2.2.1, hk.1.1.1.2.2.2.2.2.2⟩⟩⟩⟩⟩⟩⟩)⟩
                              have n4_ : Aside0 (Kd.R (Kd.int .u8) 5 (w144.setCell ⟨go127, 0, none⟩ ((.slice Av_ t888.length cv_))) w.heap.size (fun k_ => (w.heap.size ≤ k_) ∧ some k_ ≠ (v855 : Value).ownBlock) v862 y861) := ⟨by (with_reducible repeat (first | apply Kd.R_alloc | apply Kd.R_drewN | apply Kd.R_drew)); exact Kd.R_mono (Kd.R_far (p := ⟨go127, 0, none⟩) (Kd.R_types HO863.out GG127.out (by decide)) (fun _ hk => hk.2) ((.slice Av_ t888.length cv_))) (fun _ hk => ⟨hk.1.1.1, hk.1.1.2⟩)⟩
                              have n5_ : Aside0 ((w144.setCell ⟨go127, 0, none⟩ ((.slice Av_ t888.length cv_))).heap[gb835]? = some (.cells #[.int .i64 0, .int .i64 0, .slice none 0 0] 25 (0, 0))) := ⟨by (with_reducible repeat (first | refine blk_drewN ?_ _ | refine blk_drew ?_ | refine blk_alloc ?_ _)); refine blk_far ?_ (by have h_ := Kd.N_away HO852.out (fun _ hk => hk.1.1.2.2.2.1); intro e_; exact h_ (by rw [e_]; rfl)) _; (with_reducible repeat (first | refine blk_drewN ?_ _ | refine blk_drew ?_ | refine blk_alloc ?_ _)); exact BK835.out⟩
                              have n6_ : Aside0 ((w144.setCell ⟨go127, 0, none⟩ ((.slice Av_ t888.length cv_))).heap[gb853]? = some (.cells #[.int .i64 t848, .int .i64 t849, .slice (some ⟨go127, 0, none⟩) t850.length co32] 25 (0, 0))) := ⟨by (with_reducible repeat (first | refine blk_drewN ?_ _ | refine blk_drew ?_ | refine blk_alloc ?_ _)); refine blk_far ?_ (by have h_ := Kd.N_away HO852.out (fun _ hk => hk.1.1.2.2.2.2.2); intro e_; exact h_ (by rw [e_]; rfl)) _; (with_reducible repeat (first | refine blk_drewN ?_ _ | refine blk_drew ?_ | refine blk_alloc ?_ _)); exact BK853.out⟩
                              have n7_ : Aside0 (IsS99 w0 (w144.setCell ⟨go127, 0, none⟩ ((.slice Av_ t888.length cv_))) g s0_0 t891) := ⟨by repeat (first | (with_reducible first | exact HI0.out | apply IsS99.alloc | apply IsS99.drewN | apply IsS99.drew | apply IsS99.set_1 | refine IsS99.far ?_ HN0_go127.out _ | refine IsS99.far ?_ NB0_835.out _ | refine IsS99.far ?_ NB0_853.out _) | exact HI0.out)⟩
                              have n8_ : Aside0 (KeepBut w (w144.setCell ⟨go127, 0, none⟩ ((.slice Av_ t888.length cv_))) g none) := ⟨by repeat (first | (with_reducible first | exact HK.out | apply KeepBut.set_ | apply keep_drewN | apply keep_drew | apply keep_alloc | refine keep_far ?_ GB127.out _ | refine keep_far ?_ GW835.out _ | refine keep_far ?_ GW853.out _) | exact HK.out)⟩
                              have n9_ : Aside0 (Below w0.heap.size w0 (w144.setCell ⟨go127, 0, none⟩ ((.slice Av_ t888.length cv_)))) := ⟨by repeat (first | (with_reducible first | exact HB.out | apply below_alloc | apply pw_below_drewN | apply below_drew1 | refine below_set ?_ (Nat.le_trans HL.out GB127.out) | refine below_set ?_ (IsS99.ge HI0.out) | refine below_set ?_ GE835.out | refine below_set ?_ GE853.out) | exact HB.out)⟩
                              (try clear HO_5)
                              (try clear HO852)
                              (try clear HO856)
                              (try clear HL860_0)
                              (try clear HO863)
                              (try clear BK835)
                              (try clear BK853)
                              (try clear HI0)
                              (try clear HK)
                              (try clear HB)
                              generalize (w144.setCell ⟨go127, 0, none⟩ ((.slice Av_ t888.length cv_))) = w146 at n0_ n1_ n2_ n3_ n4_ n5_ n6_ n7_ n8_ n9_ ⊢
                              have HO_5 := n0_
                              have HO852 := n1_
                              have HO856 := n2_
                              have HL860_0 := n3_
                              have HO863 := n4_
                              have BK835 := n5_
                              have BK853 := n6_
                              have HI0 := n7_
                              have HK := n8_
                              have HB := n9_
                              clear n0_ n1_ n2_ n3_ n4_ n5_ n6_ n7_ n8_ n9_
                              try go_wp2
                              have n0_ := Aside0.mk (Kd.N_drew HO_5.out)
                              have n1_ := Aside0.mk (Kd.N_drew HO852.out)
                              have n2_ := Aside0.mk (Kd.R_drew HO856.out)
                              have n3_ := Aside0.mk (Kd.V_drew HL860_0.out)
                              have n4_ := Aside0.mk (Kd.R_drew HO863.out)
                              have n5_ := Aside0.mk (blk_drew BK835.out)
                              have n6_ := Aside0.mk (blk_drew BK853.out)
                              have n7_ := Aside0.mk (IsS99.drew HI0.out)
                              have n8_ := Aside0.mk (keep_drew HK.out)
                              have n9_ := Aside0.mk (below_drew1 HB.out)
                              clear HO_5
                              clear HO852
                              clear HO856
                              clear HL860_0
                              clear HO863
                              clear BK835
                              clear BK853
                              clear HI0
                              clear HK
                              clear HB
                              have HO_5 := n0_
                              have HO852 := n1_
                              have HO856 := n2_
                              have HL860_0 := n3_
                              have HO863 := n4_
                              have BK835 := n5_
                              have BK853 := n6_
                              have HI0 := n7_
                              have HK := n8_
                              have HB := n9_
                              clear n0_ n1_ n2_ n3_ n4_ n5_ n6_ n7_ n8_ n9_
                              refine start_ (n := 6) (S := fun w' => w'.cell? ⟨gb853, 0, none⟩ = some (.int .i64 t848) ∧ w'.cell? ⟨gb853, 1, none⟩ = some (.int .i64 t849) ∧ w'.cell? ⟨gb853, 2, none⟩ = some (.slice (some ⟨go127, 0, none⟩) t850.length co32)) (ds := []) #[false, false, false, false, false, false] (by kernel_rfl) rfl rfl ⟨(blk_cell BK853.out 0).trans (by first | rfl | (simp only [*] <;> rfl)), (blk_cell BK853.out 1).trans (by first | rfl | (simp only [*] <;> rfl)), (blk_cell BK853.out 2).trans (by first | rfl | (simp only [*] <;> rfl))⟩ (fun hHeld => ?_)
                              generalize w146.drew = w147 at HO_5 HO852 HO856 HL860_0 HO863 BK835 BK853 HI0 HK HB hHeld ⊢
                              refine pure_ (i := 0) (N := some 94) (v := ?_) (a' := ?_) #[true, false, false, false, false, false] rfl rfl (by kernel_rfl) (fun _ _ _ h => h) (Or.inl ⟨by rfl, ?_⟩) ?_ ?_
                              rotate_left
                              · intro w'
                                go_simp
                                with_reducible rfl
                              rotate_left
                              · simp only [Act.put, List.setIfInBounds_toArray, List.set_cons_zero, List.set_cons_succ, i64_w, i32_w]
                                rfl
                              refine pure_ (i := 1) (N := some 95) (v := ?_) (a' := ?_) #[true, true, false, false, false, false] rfl rfl (by kernel_rfl) (fun _ _ _ h => h) (Or.inl ⟨by rfl, ?_⟩) ?_ ?_
                              rotate_left
                              · intro w'
                                go_simp
                                with_reducible rfl
                              rotate_left
                              · simp only [Act.put, List.setIfInBounds_toArray, List.set_cons_zero, List.set_cons_succ, i64_w, i32_w]
                                rfl
                              refine pure_ (i := 3) (N := some 2) (v := ?_) (a' := ?_) #[true, true, false, true, false, false] rfl rfl (by kernel_rfl) (fun _ _ _ h => h) (Or.inl ⟨by rfl, ?_⟩) ?_ ?_
                              rotate_left
                              · intro w'
                                go_simp
                                with_reducible rfl
                              rotate_left
                              · simp only [Act.put, List.setIfInBounds_toArray, List.set_cons_zero, List.set_cons_succ, i64_w, i32_w]
                                rfl
                              refine pure_ (i := 4) (N := some 3) (v := ?_) (a' := ?_) #[true, true, false, true, true, false] rfl rfl (by kernel_rfl) (fun _ _ _ h => h) (Or.inl ⟨by rfl, ?_⟩) ?_ ?_
                              rotate_left
                              · intro w'
                                go_simp
                                with_reducible rfl
                              rotate_left
                              · simp only [Act.put, List.setIfInBounds_toArray, List.set_cons_zero, List.set_cons_succ, i64_w, i32_w]
                                rfl
                              refine take_ (i := 2) (N := some 96) (v := ?_) (a' := ?_) #[true, true, true, true, true, false] rfl rfl (by kernel_rfl) (fun _ _ _ h => h) (Or.inl ⟨by rfl, ?_⟩) hHeld ?_ ?_
                              rotate_left
                              · rintro w' ⟨s0, s1, s2⟩
                                go_simp
                                with_reducible rfl
                              rotate_left
                              · simp only [Act.put, List.setIfInBounds_toArray, List.set_cons_zero, List.set_cons_succ, i64_w, i32_w]
                                rfl
                              refine one_ (i := 5) (N := none) #[true, true, true, true, true, true] rfl rfl (by kernel_rfl) (by decide) (fun K hK => ?_)
                              have hs148 : w147.cell? ⟨gb835, 0, none⟩ = some (.int .i64 0) := (blk_cell BK835.out 0).trans (by first | rfl | (simp only [*] <;> rfl))
                              have hfs148 := blk_frozen BK835.out 0
                              have hns148_1 := NB853_835.out
                              have hms148_1 := NB835_853.out
                              have hs149 : w147.cell? ⟨gb835, 1, none⟩ = some (.int .i64 0) := (blk_cell BK835.out 1).trans (by first | rfl | (simp only [*] <;> rfl))
                              have hfs149 := blk_frozen BK835.out 1
                              have hns149_1 := NB853_835.out
                              have hms149_1 := NB835_853.out
                              have hs150 : w147.cell? ⟨gb835, 2, none⟩ = some (.slice none 0 0) := (blk_cell BK835.out 2).trans (by first | rfl | (simp only [*] <;> rfl))
                              have hfs150 := blk_frozen BK835.out 2
                              have hns150_1 := NB853_835.out
                              have hms150_1 := NB835_853.out
                              refine skip_ (w1 := ?_) (by rfl) rfl ?_ ?_
                              rotate_left
                              · go_simp
                                rfl
                              refine hK.out _ _ ⟨((cell_far (p := ⟨gb835, _, none⟩) NB853_835.out _).trans (((cell_far (p := ⟨gb835, _, none⟩) NB853_835.out _).trans (((cell_far (p := ⟨gb835, _, none⟩) NB853_835.out _).trans (hHeld.1)))))), ((cell_far (p := ⟨gb835, _, none⟩) NB853_835.out _).trans (((cell_far (p := ⟨gb835, _, none⟩) NB853_835.out _).trans (((cell_far (p := ⟨gb835, _, none⟩) NB853_835.out _).trans (hHeld.2.1)))))), ((cell_far (p := ⟨gb835, _, none⟩) NB853_835.out _).trans (((cell_far (p := ⟨gb835, _, none⟩) NB853_835.out _).trans (((cell_far (p := ⟨gb835, _, none⟩) NB853_835.out _).trans (hHeld.2.2))))))⟩ (fun hHeld => ?_)
                              clear hK K
                              refine done_ (by kernel_rfl) ?_
                              try go_wp2
                              refine bodyPost_ret (results_list (rs := [.tmp 2, .tmp 3, .cell 4 25]) rfl (by simp) (.tmp (.tmp (.cell gb835 25 #[.int .i64 t848, .int .i64 t849, .slice (some ⟨go127, 0, none⟩) t850.length co32] (0, 0) _ rfl (by (with_reducible repeat (first | refine blk_drewN ?_ _ | refine blk_drew ?_ | refine blk_alloc ?_ _)); refine blk_put (cs := #[.int .i64 t848, .int .i64 t849, .slice none 0 0]) ?_ 2 _ rfl; (with_reducible repeat (first | refine blk_drewN ?_ _ | refine blk_drew ?_ | refine blk_alloc ?_ _)); refine blk_put (cs := #[.int .i64 t848, .int .i64 0, .slice none 0 0]) ?_ 1 _ rfl; (with_reducible repeat (first | refine blk_drewN ?_ _ | refine blk_drew ?_ | refine blk_alloc ?_ _)); refine blk_put (cs := #[.int .i64 0, .int .i64 0, .slice none 0 0]) ?_ 0 _ rfl; (with_reducible repeat (first | refine blk_drewN ?_ _ | refine blk_drew ?_ | refine blk_alloc ?_ _)); exact BK835.out) Try.underlying25 rfl (by kernel_rfl) .nil)))) rfl ?_
                              exact ⟨_, _, _, by first | rfl | (simp [errW_none, errW_some] <;> rfl) | (simp [*, errW_none, errW_some] <;> rfl), by (with_reducible repeat (first | apply Kd.R_alloc | apply Kd.R_drewN | apply Kd.R_drew)); exact Kd.R_mono (Kd.R_far (p := ⟨gb835, 2, none⟩) (Kd.R_far (p := ⟨gb835, 1, none⟩) (Kd.R_far (p := ⟨gb835, 0, none⟩) (Kd.R_types HO856.out BK835.out (by decide)) (fun _ hk => hk.2) (.int .i64 t848)) (fun _ hk => hk.2) (.int .i64 t849)) (fun _ hk => hk.2) (.slice (some ⟨go127, 0, none⟩) t850.length co32)) (fun _ hk => ⟨hk.1.1, hk.1.2⟩), by (with_reducible repeat (first | apply Kd.R_alloc | apply Kd.R_drewN | apply Kd.R_drew)); exact Kd.R_mono (Kd.R_far (p := ⟨gb835, 2, none⟩) (Kd.R_far (p := ⟨gb835, 1, none⟩) (Kd.R_far (p := ⟨gb835, 0, none⟩) (Kd.R_types HO863.out BK835.out (by decide)) (fun _ hk => hk.2) (.int .i64 t848)) (fun _ hk => hk.2) (.int .i64 t849)) (fun _ hk => hk.2) (.slice (some ⟨go127, 0, none⟩) t850.length co32)) (fun _ hk => ⟨hk.1.1, hk.1.2⟩), by (with_reducible repeat (first | apply Kd.N_alloc | apply Kd.N_drewN | apply Kd.N_drew)); exact Kd.N_mono (Kd.N_far (p := ⟨gb835, 2, none⟩) (Kd.N_far (p := ⟨gb835, 1, none⟩) (Kd.N_far (p := ⟨gb835, 0, none⟩) (Kd.N_mono HO852.out (fun k_ hk => (⟨hk, hk.2.2.2.2.1⟩ : _ ∧ k_ ≠ gb835))) (fun _ hk => hk.2) (.int .i64 t848)) (fun _ hk => hk.2) (.int .i64 t849)) (fun _ hk => hk.2) (.slice (some ⟨go127, 0, none⟩) t850.length co32)) (fun _ hk => ⟨hk.1.1, ⟨hk.1.2.2.1, hk.1.2.2.2.1⟩⟩), by repeat (first | (with_reducible first | exact HI0.out | apply IsS99.alloc | apply IsS99.drewN | apply IsS99.drew | apply IsS99.set_1 | refine IsS99.far ?_ NB0_835.out _ | refine IsS99.far ?_ NB0_853.out _) | exact HI0.out), by repeat (first | (with_reducible first | exact HB.out | apply below_alloc | apply pw_below_drewN | apply below_drew1 | refine below_set ?_ (IsS99.ge HI0.out) | refine below_set ?_ GE835.out | refine below_set ?_ GE853.out) | exact HB.out), by repeat (first | (with_reducible first | exact HK.out | apply KeepBut.set_ | apply keep_drewN | apply keep_drew | apply keep_alloc | refine keep_far ?_ GW835.out _ | refine keep_far ?_ GW853.out _) | exact HK.out)⟩
                            · rw [if_neg c126] at H
                              exact absurd H (by simp)
                          · rw [if_neg c123] at H
                            have c123b0 : decide (0 < (t850.length : Int)) = false := decide_eq_false c123
                            have c123b1 : decide (0 < t850.length) = false := decide_eq_false (by omega)
                            clear c123
                            simp only [Option.some.injEq, Prod.mk.injEq] at H
                            obtain ⟨rfl, rfl, rfl, rfl, rfl, rfl⟩ := H
                            have hcz164_0 : w37.cell? ⟨gb853, 0, none⟩ = some (.int .i64 t848) := (blk_cell BK853.out 0).trans (by first | rfl | (simp only [*] <;> rfl))
                            have hcz164_1 : w37.cell? ⟨gb853, 1, none⟩ = some (.int .i64 t849) := (blk_cell BK853.out 1).trans (by first | rfl | (simp only [*] <;> rfl))
                            have hcz164_2 : w37.cell? ⟨gb853, 2, none⟩ = some (.slice Ao32 t850.length co32) := (blk_cell BK853.out 2).trans (by first | rfl | (simp only [*] <;> rfl))
                            have hfz164_0 := blk_frozen BK853.out 0
                            have hfz164_1 := blk_frozen BK853.out 1
                            have hfz164_2 := blk_frozen BK853.out 2
                            try go_wp2_with fail
                            have n0_ := Aside0.mk (Kd.N_drew HO_5.out)
                            have n1_ := Aside0.mk (Kd.N_drew HO852.out)
                            have n2_ := Aside0.mk (Kd.R_drew HO856.out)
                            have n3_ := Aside0.mk (Kd.V_drew HL860_0.out)
                            have n4_ := Aside0.mk (Kd.R_drew HO863.out)
                            have n5_ := Aside0.mk (blk_drew BK835.out)
                            have n6_ := Aside0.mk (blk_drew BK853.out)
                            have n7_ := Aside0.mk (IsS99.drew HI0.out)
                            have n8_ := Aside0.mk (keep_drew HK.out)
                            have n9_ := Aside0.mk (below_drew1 HB.out)
                            clear HO_5
                            clear HO852
                            clear HO856
                            clear HL860_0
                            clear HO863
                            clear BK835
                            clear BK853
                            clear HI0
                            clear HK
                            clear HB
                            have HO_5 := n0_
                            have HO852 := n1_
                            have HO856 := n2_
                            have HL860_0 := n3_
                            have HO863 := n4_
                            have BK835 := n5_
                            have BK853 := n6_
                            have HI0 := n7_
                            have HK := n8_
                            have HB := n9_
                            clear n0_ n1_ n2_ n3_ n4_ n5_ n6_ n7_ n8_ n9_
                            refine start_ (n := 6) (S := fun w' => w'.cell? ⟨gb853, 0, none⟩ = some (.int .i64 t848) ∧ w'.cell? ⟨gb853, 1, none⟩ = some (.int .i64 t849) ∧ w'.cell? ⟨gb853, 2, none⟩ = some (.slice Ao32 t850.length co32)) (ds := []) #[false, false, false, false, false, false] (by kernel_rfl) rfl rfl ⟨(blk_cell BK853.out 0).trans (by first | rfl | (simp only [*] <;> rfl)), (blk_cell BK853.out 1).trans (by first | rfl | (simp only [*] <;> rfl)), (blk_cell BK853.out 2).trans (by first | rfl | (simp only [*] <;> rfl))⟩ (fun hHeld => ?_)
                            generalize w37.drew = w165 at HO_5 HO852 HO856 HL860_0 HO863 BK835 BK853 HI0 HK HB hHeld ⊢
                            refine pure_ (i := 0) (N := some 94) (v := ?_) (a' := ?_) #[true, false, false, false, false, false] rfl rfl (by kernel_rfl) (fun _ _ _ h => h) (Or.inl ⟨by rfl, ?_⟩) ?_ ?_
                            rotate_left
                            · intro w'
                              go_simp
                              with_reducible rfl
                            rotate_left
                            · simp only [Act.put, List.setIfInBounds_toArray, List.set_cons_zero, List.set_cons_succ, i64_w, i32_w]
                              rfl
                            refine pure_ (i := 1) (N := some 95) (v := ?_) (a' := ?_) #[true, true, false, false, false, false] rfl rfl (by kernel_rfl) (fun _ _ _ h => h) (Or.inl ⟨by rfl, ?_⟩) ?_ ?_
                            rotate_left
                            · intro w'
                              go_simp
                              with_reducible rfl
                            rotate_left
                            · simp only [Act.put, List.setIfInBounds_toArray, List.set_cons_zero, List.set_cons_succ, i64_w, i32_w]
                              rfl
                            refine pure_ (i := 3) (N := some 2) (v := ?_) (a' := ?_) #[true, true, false, true, false, false] rfl rfl (by kernel_rfl) (fun _ _ _ h => h) (Or.inl ⟨by rfl, ?_⟩) ?_ ?_
                            rotate_left
                            · intro w'
                              go_simp
                              with_reducible rfl
                            rotate_left
                            · simp only [Act.put, List.setIfInBounds_toArray, List.set_cons_zero, List.set_cons_succ, i64_w, i32_w]
                              rfl
                            refine pure_ (i := 4) (N := some 3) (v := ?_) (a' := ?_) #[true, true, false, true, true, false] rfl rfl (by kernel_rfl) (fun _ _ _ h => h) (Or.inl ⟨by rfl, ?_⟩) ?_ ?_
                            rotate_left
                            · intro w'
                              go_simp
                              with_reducible rfl
                            rotate_left
                            · simp only [Act.put, List.setIfInBounds_toArray, List.set_cons_zero, List.set_cons_succ, i64_w, i32_w]
                              rfl
                            refine take_ (i := 2) (N := some 96) (v := ?_) (a' := ?_) #[true, true, true, true, true, false] rfl rfl (by kernel_rfl) (fun _ _ _ h => h) (Or.inl ⟨by rfl, ?_⟩) hHeld ?_ ?_
                            rotate_left
                            · rintro w' ⟨s0, s1, s2⟩
                              go_simp
                              with_reducible rfl
                            rotate_left
                            · simp only [Act.put, List.setIfInBounds_toArray, List.set_cons_zero, List.set_cons_succ, i64_w, i32_w]
                              rfl
                            refine one_ (i := 5) (N := none) #[true, true, true, true, true, true] rfl rfl (by kernel_rfl) (by decide) (fun K hK => ?_)
                            have hs166 : w165.cell? ⟨gb835, 0, none⟩ = some (.int .i64 0) := (blk_cell BK835.out 0).trans (by first | rfl | (simp only [*] <;> rfl))
                            have hfs166 := blk_frozen BK835.out 0
                            have hns166_1 := NB853_835.out
                            have hms166_1 := NB835_853.out
                            have hs167 : w165.cell? ⟨gb835, 1, none⟩ = some (.int .i64 0) := (blk_cell BK835.out 1).trans (by first | rfl | (simp only [*] <;> rfl))
                            have hfs167 := blk_frozen BK835.out 1
                            have hns167_1 := NB853_835.out
                            have hms167_1 := NB835_853.out
                            have hs168 : w165.cell? ⟨gb835, 2, none⟩ = some (.slice none 0 0) := (blk_cell BK835.out 2).trans (by first | rfl | (simp only [*] <;> rfl))
                            have hfs168 := blk_frozen BK835.out 2
                            have hns168_1 := NB853_835.out
                            have hms168_1 := NB835_853.out
                            refine skip_ (w1 := ?_) (by rfl) rfl ?_ ?_
                            rotate_left
                            · go_simp
                              rfl
                            refine hK.out _ _ ⟨((cell_far (p := ⟨gb835, _, none⟩) NB853_835.out _).trans (((cell_far (p := ⟨gb835, _, none⟩) NB853_835.out _).trans (((cell_far (p := ⟨gb835, _, none⟩) NB853_835.out _).trans (hHeld.1)))))), ((cell_far (p := ⟨gb835, _, none⟩) NB853_835.out _).trans (((cell_far (p := ⟨gb835, _, none⟩) NB853_835.out _).trans (((cell_far (p := ⟨gb835, _, none⟩) NB853_835.out _).trans (hHeld.2.1)))))), ((cell_far (p := ⟨gb835, _, none⟩) NB853_835.out _).trans (((cell_far (p := ⟨gb835, _, none⟩) NB853_835.out _).trans (((cell_far (p := ⟨gb835, _, none⟩) NB853_835.out _).trans (hHeld.2.2))))))⟩ (fun hHeld => ?_)
                            clear hK K
                            refine done_ (by kernel_rfl) ?_
                            try go_wp2
                            refine bodyPost_ret (results_list (rs := [.tmp 2, .tmp 3, .cell 4 25]) rfl (by simp) (.tmp (.tmp (.cell gb835 25 #[.int .i64 t848, .int .i64 t849, .slice Ao32 t850.length co32] (0, 0) _ rfl (by (with_reducible repeat (first | refine blk_drewN ?_ _ | refine blk_drew ?_ | refine blk_alloc ?_ _)); refine blk_put (cs := #[.int .i64 t848, .int .i64 t849, .slice none 0 0]) ?_ 2 _ rfl; (with_reducible repeat (first | refine blk_drewN ?_ _ | refine blk_drew ?_ | refine blk_alloc ?_ _)); refine blk_put (cs := #[.int .i64 t848, .int .i64 0, .slice none 0 0]) ?_ 1 _ rfl; (with_reducible repeat (first | refine blk_drewN ?_ _ | refine blk_drew ?_ | refine blk_alloc ?_ _)); refine blk_put (cs := #[.int .i64 0, .int .i64 0, .slice none 0 0]) ?_ 0 _ rfl; (with_reducible repeat (first | refine blk_drewN ?_ _ | refine blk_drew ?_ | refine blk_alloc ?_ _)); exact BK835.out) Try.underlying25 rfl (by kernel_rfl) .nil)))) rfl ?_
                            exact ⟨_, _, _, by first | rfl | (simp [errW_none, errW_some] <;> rfl) | (simp [*, errW_none, errW_some] <;> rfl), by (with_reducible repeat (first | apply Kd.R_alloc | apply Kd.R_drewN | apply Kd.R_drew)); exact Kd.R_mono (Kd.R_far (p := ⟨gb835, 2, none⟩) (Kd.R_far (p := ⟨gb835, 1, none⟩) (Kd.R_far (p := ⟨gb835, 0, none⟩) (Kd.R_types HO856.out BK835.out (by decide)) (fun _ hk => hk.2) (.int .i64 t848)) (fun _ hk => hk.2) (.int .i64 t849)) (fun _ hk => hk.2) (.slice Ao32 t850.length co32)) (fun _ hk => ⟨hk.1.1, hk.1.2⟩), by (with_reducible repeat (first | apply Kd.R_alloc | apply Kd.R_drewN | apply Kd.R_drew)); exact Kd.R_mono (Kd.R_far (p := ⟨gb835, 2, none⟩) (Kd.R_far (p := ⟨gb835, 1, none⟩) (Kd.R_far (p := ⟨gb835, 0, none⟩) (Kd.R_types HO863.out BK835.out (by decide)) (fun _ hk => hk.2) (.int .i64 t848)) (fun _ hk => hk.2) (.int .i64 t849)) (fun _ hk => hk.2) (.slice Ao32 t850.length co32)) (fun _ hk => ⟨hk.1.1, hk.1.2⟩), by (with_reducible repeat (first | apply Kd.N_alloc | apply Kd.N_drewN | apply Kd.N_drew)); exact Kd.N_mono (Kd.N_far (p := ⟨gb835, 2, none⟩) (Kd.N_far (p := ⟨gb835, 1, none⟩) (Kd.N_far (p := ⟨gb835, 0, none⟩) (Kd.N_mono HO852.out (fun k_ hk => (⟨hk, hk.1.2.2.2.1⟩ : _ ∧ k_ ≠ gb835))) (fun _ hk => hk.2) (.int .i64 t848)) (fun _ hk => hk.2) (.int .i64 t849)) (fun _ hk => hk.2) (.slice Ao32 t850.length co32)) (fun _ hk => ⟨hk.1.1.1, ⟨hk.1.1.2.2.1, hk.1.2⟩⟩), by repeat (first | (with_reducible first | exact HI0.out | apply IsS99.alloc | apply IsS99.drewN | apply IsS99.drew | apply IsS99.set_1 | refine IsS99.far ?_ NB0_835.out _ | refine IsS99.far ?_ NB0_853.out _) | exact HI0.out), by repeat (first | (with_reducible first | exact HB.out | apply below_alloc | apply pw_below_drewN | apply below_drew1 | refine below_set ?_ (IsS99.ge HI0.out) | refine below_set ?_ GE835.out | refine below_set ?_ GE853.out) | exact HB.out), by repeat (first | (with_reducible first | exact HK.out | apply KeepBut.set_ | apply keep_drewN | apply keep_drew | apply keep_alloc | refine keep_far ?_ GW835.out _ | refine keep_far ?_ GW853.out _) | exact HK.out)⟩
                        · rw [if_neg c122] at H
                          have c122b0 : (t864 == 4) = false := beq_eq_false_iff_ne.mpr c122
                          have c122b1 : (t864 != 4) = true := bne_iff_ne.mpr c122
                          by_cases c169 : t864 = 5
                          · rw [if_pos c169] at H
                            have c169b0 : (t864 == 5) = true := beq_iff_eq.mpr c169
                            have c169b1 : (t864 != 5) = false := bne_eq_false_iff_eq.mpr c169
                            clear c169
                            replace H := Option.bind_eq_some_iff.mp H
                            obtain ⟨⟨t893, t896⟩, A1700, H⟩ := H
                            replace H : (some (t893, y861, t848, t849, t850, t896)) = some (r1, r2, r3, r4, r5, r6) := H
                            have A170 := Aside0.mk A1700
                            clear A1700
                            simp only [Option.some.injEq, Prod.mk.injEq] at H
                            obtain ⟨rfl, rfl, rfl, rfl, rfl, rfl⟩ := H
                            try go_wp2_with (first | ((with_reducible refine gate_callee (f := 85) rfl ?_); refine goesL_ (some 93) rfl rfl Try.func85 (by kernel_rfl) rfl #[.pointer (some ⟨g, 0, none⟩), .int .i64 32] rfl (by (try simp only [List.map_toArray, List.map_cons, List.map_nil]); first | done | rfl | (simp only [List.length_drop, List.length_take]; rfl)) ?_; (with_reducible refine (spec_l1Some.calls kj8 g s0_0 t865 32 t893 t896 w0 _ ?side1 ?side2 A170.out).mono ?_); (case side1 => repeat (first | (with_reducible first | exact HI0.out | apply IsS99.alloc | apply IsS99.drewN | apply IsS99.drew | apply IsS99.set_1 | refine IsS99.far ?_ NB0_835.out _ | refine IsS99.far ?_ NB0_853.out _) | exact HI0.out)); (case side2 => repeat (first | (with_reducible first | exact HB.out | apply below_alloc | apply pw_below_drewN | apply below_drew1 | refine below_set ?_ (IsS99.ge HI0.out) | refine below_set ?_ GE835.out | refine below_set ?_ GE853.out) | exact HB.out)); rintro e w184 ⟨v894, rfl, ho0, hi, hb, hk⟩; refine ⟨_, rfl, ?_⟩; have n0_ := Aside0.mk (Kd.N_mono (Kd.N_told (Kd.N_oldK (Kd.N_mono (ok := fun k_ => ((((w.heap.size ≤ k_)) ∧ (some k_ ≠ (.slice Ao32 t850.length co32 : Value).ownBlock ∧ (some k_ ≠ (v855 : Value).ownBlock ∧ (k_ ≠ gb835 ∧ (k_ ≠ g ∧ k_ ≠ gb853))))) ∧ some k_ ≠ (v862 : Value).ownBlock)) (by (with_reducible repeat (first | apply Kd.N_alloc | apply Kd.N_drewN | apply Kd.N_drew)); exact HO_5.out) (fun k_ hk_ => (⟨hk_, hk_.1.2.2.2.2.1⟩ : _ ∧ k_ ≠ g))) hk) (Kd.R_base ho0)) (fun _ h_ => h_.1)); have n1_ := Aside0.mk (KeepBut.blk hk (g' := gb835) (o := .cells #[.int .i64 0, .int .i64 0, .slice none 0 0] 25 (0, 0)) (by (with_reducible repeat (first | refine blk_drewN ?_ _ | refine blk_drew ?_ | refine blk_alloc ?_ _)); exact BK835.out) NB835_0.out (by simp)); have n2_ := Aside0.mk (Kd.N_mono (Kd.N_told (Kd.N_oldK (Kd.N_mono (ok := fun k_ => ((((w.heap.size ≤ k_)) ∧ (some k_ ≠ (.slice (some ad860) x5_8.length co25 : Value).ownBlock ∧ (some k_ ≠ (v855 : Value).ownBlock ∧ (k_ ≠ gb835 ∧ (k_ ≠ g ∧ k_ ≠ gb853))))) ∧ some k_ ≠ (v862 : Value).ownBlock)) (by (with_reducible repeat (first | apply Kd.N_alloc | apply Kd.N_drewN | apply Kd.N_drew)); exact HO852.out) (fun k_ hk_ => (⟨hk_, hk_.1.2.2.2.2.1⟩ : _ ∧ k_ ≠ g))) hk) (Kd.R_base ho0)) (fun _ h_ => h_.1)); have n3_ := Aside0.mk (KeepBut.blk hk (g' := gb853) (o := .cells #[.int .i64 t848, .int .i64 t849, .slice Ao32 t850.length co32] 25 (0, 0)) (by (with_reducible repeat (first | refine blk_drewN ?_ _ | refine blk_drew ?_ | refine blk_alloc ?_ _)); exact BK853.out) NB853_0.out (by simp)); have n4_ := Aside0.mk (Kd.R_mono (Kd.R_told (Kd.R_oldK (IsS99.apart (show IsS99 w0 _ g s0_0 t865 from by repeat (first | (with_reducible first | exact HI0.out | apply IsS99.alloc | apply IsS99.drewN | apply IsS99.drew | apply IsS99.set_1 | refine IsS99.far ?_ NB0_835.out _ | refine IsS99.far ?_ NB0_853.out _) | exact HI0.out)) (by (with_reducible repeat (first | apply Kd.R_alloc | apply Kd.R_drewN | apply Kd.R_drew)); exact HO856.out) (by decide)) hk) (Kd.R_base ho0)) (fun _ h_ => h_.1)); have n5_ := Aside0.mk (Kd.V_mono (Kd.V_told (Kd.V_oldK (Kd.V_mono (ok := fun k_ => ((((w.heap.size ≤ k_)) ∧ (some k_ ≠ (.slice (some ad860) x5_8.length co25 : Value).ownBlock ∧ (some k_ ≠ (.slice Ao32 t850.length co32 : Value).ownBlock ∧ (some k_ ≠ (v855 : Value).ownBlock ∧ (k_ ≠ gb835 ∧ (k_ ≠ g ∧ k_ ≠ gb853)))))) ∧ some k_ ≠ (v862 : Value).ownBlock)) (by (with_reducible repeat (first | apply Kd.V_alloc | apply Kd.V_drewN | apply Kd.V_drew)); exact HL860_0.out) (fun k_ hk_ => (⟨hk_, hk_.1.2.2.2.2.2.1⟩ : _ ∧ k_ ≠ g))) hk) (Kd.R_base ho0)) (fun _ h_ => h_.1)); have n6_ := Aside0.mk (Kd.R_mono (Kd.R_told (Kd.R_oldK (IsS99.apart (show IsS99 w0 _ g s0_0 t865 from by repeat (first | (with_reducible first | exact HI0.out | apply IsS99.alloc | apply IsS99.drewN | apply IsS99.drew | apply IsS99.set_1 | refine IsS99.far ?_ NB0_835.out _ | refine IsS99.far ?_ NB0_853.out _) | exact HI0.out)) (by (with_reducible repeat (first | apply Kd.R_alloc | apply Kd.R_drewN | apply Kd.R_drew)); exact HO863.out) (by decide)) hk) (Kd.R_base ho0)) (fun _ h_ => h_.1)); have n7_ := Aside0.mk (Kd.R_lower (Kd.R_new' (Kd.R_new' (Kd.R_newM (M := fun k_ => (w.heap.size ≤ k_)) ho0 (keep_size (w := w) (g := g) (row := none) (by repeat (first | (with_reducible first | exact HK.out | apply KeepBut.set_ | apply keep_drewN | apply keep_drew | apply keep_alloc | refine keep_far ?_ GW835.out _ | refine keep_far ?_ GW853.out _) | exact HK.out))) (fun k_ h_ => h_)) (Kd.R_lt (by (with_reducible repeat (first | apply Kd.R_alloc | apply Kd.R_drewN | apply Kd.R_drew)); exact HO856.out))) (Kd.R_lt (by (with_reducible repeat (first | apply Kd.R_alloc | apply Kd.R_drewN | apply Kd.R_drew)); exact HO863.out))) (keep_size (w := w) (g := g) (row := none) (by repeat (first | (with_reducible first | exact HK.out | apply KeepBut.set_ | apply keep_drewN | apply keep_drew | apply keep_alloc | refine keep_far ?_ GW835.out _ | refine keep_far ?_ GW853.out _) | exact HK.out)))); have n8_ := Aside0.mk (KeepBut.trans (by repeat (first | (with_reducible first | exact HK.out | apply KeepBut.set_ | apply keep_drewN | apply keep_drew | apply keep_alloc | refine keep_far ?_ GW835.out _ | refine keep_far ?_ GW853.out _) | exact HK.out)) hk (.inl rfl)); have n9_ := Aside0.mk (hb); have n10_ := Aside0.mk (hi); clear HO_5; clear BK835; clear HO852; clear BK853; clear HO856; clear HL860_0; clear HO863; clear HK; clear HB; clear HI0; have HO_5 := n0_; have BK835 := n1_; have HO852 := n2_; have BK853 := n3_; have HO856 := n4_; have HL860_0 := n5_; have HO863 := n6_; have HO895 := n7_; have HK := n8_; have HB := n9_; have HI0 := n10_; clear n0_ n1_ n2_ n3_ n4_ n5_ n6_ n7_ n8_ n9_ n10_; (try clear hb); (try clear hb2); (try clear hk); (try clear hi); (try clear ho0)))
                            have n0_ := Aside0.mk (Kd.N_drew HO_5.out)
                            have n1_ := Aside0.mk (Kd.N_drew HO852.out)
                            have n2_ := Aside0.mk (Kd.R_drew HO856.out)
                            have n3_ := Aside0.mk (Kd.V_drew HL860_0.out)
                            have n4_ := Aside0.mk (Kd.R_drew HO863.out)
                            have n5_ := Aside0.mk (Kd.R_drew HO895.out)
                            have n6_ := Aside0.mk (blk_drew BK835.out)
                            have n7_ := Aside0.mk (blk_drew BK853.out)
                            have n8_ := Aside0.mk (IsS99.drew HI0.out)
                            have n9_ := Aside0.mk (keep_drew HK.out)
                            have n10_ := Aside0.mk (below_drew1 HB.out)
                            clear HO_5
                            clear HO852
                            clear HO856
                            clear HL860_0
                            clear HO863
                            clear HO895
                            clear BK835
                            clear BK853
                            clear HI0
                            clear HK
                            clear HB
                            have HO_5 := n0_
                            have HO852 := n1_
                            have HO856 := n2_
                            have HL860_0 := n3_
                            have HO863 := n4_
                            have HO895 := n5_
                            have BK835 := n6_
                            have BK853 := n7_
                            have HI0 := n8_
                            have HK := n9_
                            have HB := n10_
                            clear n0_ n1_ n2_ n3_ n4_ n5_ n6_ n7_ n8_ n9_ n10_
                            refine start_ (n := 6) (S := fun w' => w'.cell? ⟨gb853, 0, none⟩ = some (.int .i64 t848) ∧ w'.cell? ⟨gb853, 1, none⟩ = some (.int .i64 t849) ∧ w'.cell? ⟨gb853, 2, none⟩ = some (.slice Ao32 t850.length co32)) (ds := []) #[false, false, false, false, false, false] (by kernel_rfl) rfl rfl ⟨(blk_cell BK853.out 0).trans (by first | rfl | (simp only [*] <;> rfl)), (blk_cell BK853.out 1).trans (by first | rfl | (simp only [*] <;> rfl)), (blk_cell BK853.out 2).trans (by first | rfl | (simp only [*] <;> rfl))⟩ (fun hHeld => ?_)
                            generalize w184.drew = w185 at HO_5 HO852 HO856 HL860_0 HO863 HO895 BK835 BK853 HI0 HK HB hHeld ⊢
                            refine pure_ (i := 0) (N := some 94) (v := ?_) (a' := ?_) #[true, false, false, false, false, false] rfl rfl (by kernel_rfl) (fun _ _ _ h => h) (Or.inl ⟨by rfl, ?_⟩) ?_ ?_
                            rotate_left
                            · intro w'
                              go_simp
                              with_reducible rfl
                            rotate_left
                            · simp only [Act.put, List.setIfInBounds_toArray, List.set_cons_zero, List.set_cons_succ, i64_w, i32_w]
                              rfl
                            refine pure_ (i := 1) (N := some 95) (v := ?_) (a' := ?_) #[true, true, false, false, false, false] rfl rfl (by kernel_rfl) (fun _ _ _ h => h) (Or.inl ⟨by rfl, ?_⟩) ?_ ?_
                            rotate_left
                            · intro w'
                              go_simp
                              with_reducible rfl
                            rotate_left
                            · simp only [Act.put, List.setIfInBounds_toArray, List.set_cons_zero, List.set_cons_succ, i64_w, i32_w]
                              rfl
                            refine pure_ (i := 3) (N := some 2) (v := ?_) (a' := ?_) #[true, true, false, true, false, false] rfl rfl (by kernel_rfl) (fun _ _ _ h => h) (Or.inl ⟨by rfl, ?_⟩) ?_ ?_
                            rotate_left
                            · intro w'
                              go_simp
                              with_reducible rfl
                            rotate_left
                            · simp only [Act.put, List.setIfInBounds_toArray, List.set_cons_zero, List.set_cons_succ, i64_w, i32_w]
                              rfl
                            refine pure_ (i := 4) (N := some 3) (v := ?_) (a' := ?_) #[true, true, false, true, true, false] rfl rfl (by kernel_rfl) (fun _ _ _ h => h) (Or.inl ⟨by rfl, ?_⟩) ?_ ?_
                            rotate_left
                            · intro w'
                              go_simp
                              with_reducible rfl
                            rotate_left
                            · simp only [Act.put, List.setIfInBounds_toArray, List.set_cons_zero, List.set_cons_succ, i64_w, i32_w]
                              rfl
                            refine take_ (i := 2) (N := some 96) (v := ?_) (a' := ?_) #[true, true, true, true, true, false] rfl rfl (by kernel_rfl) (fun _ _ _ h => h) (Or.inl ⟨by rfl, ?_⟩) hHeld ?_ ?_
                            rotate_left
                            · rintro w' ⟨s0, s1, s2⟩
                              go_simp
                              with_reducible rfl
                            rotate_left
                            · simp only [Act.put, List.setIfInBounds_toArray, List.set_cons_zero, List.set_cons_succ, i64_w, i32_w]
                              rfl
                            refine one_ (i := 5) (N := none) #[true, true, true, true, true, true] rfl rfl (by kernel_rfl) (by decide) (fun K hK => ?_)
                            have hs186 : w185.cell? ⟨gb835, 0, none⟩ = some (.int .i64 0) := (blk_cell BK835.out 0).trans (by first | rfl | (simp only [*] <;> rfl))
                            have hfs186 := blk_frozen BK835.out 0
                            have hns186_1 := NB853_835.out
                            have hms186_1 := NB835_853.out
                            have hs187 : w185.cell? ⟨gb835, 1, none⟩ = some (.int .i64 0) := (blk_cell BK835.out 1).trans (by first | rfl | (simp only [*] <;> rfl))
                            have hfs187 := blk_frozen BK835.out 1
                            have hns187_1 := NB853_835.out
                            have hms187_1 := NB835_853.out
                            have hs188 : w185.cell? ⟨gb835, 2, none⟩ = some (.slice none 0 0) := (blk_cell BK835.out 2).trans (by first | rfl | (simp only [*] <;> rfl))
                            have hfs188 := blk_frozen BK835.out 2
                            have hns188_1 := NB853_835.out
                            have hms188_1 := NB835_853.out
                            refine skip_ (w1 := ?_) (by rfl) rfl ?_ ?_
                            rotate_left
                            · go_simp
                              rfl
                            refine hK.out _ _ ⟨((cell_far (p := ⟨gb835, _, none⟩) NB853_835.out _).trans (((cell_far (p := ⟨gb835, _, none⟩) NB853_835.out _).trans (((cell_far (p := ⟨gb835, _, none⟩) NB853_835.out _).trans (hHeld.1)))))), ((cell_far (p := ⟨gb835, _, none⟩) NB853_835.out _).trans (((cell_far (p := ⟨gb835, _, none⟩) NB853_835.out _).trans (((cell_far (p := ⟨gb835, _, none⟩) NB853_835.out _).trans (hHeld.2.1)))))), ((cell_far (p := ⟨gb835, _, none⟩) NB853_835.out _).trans (((cell_far (p := ⟨gb835, _, none⟩) NB853_835.out _).trans (((cell_far (p := ⟨gb835, _, none⟩) NB853_835.out _).trans (hHeld.2.2))))))⟩ (fun hHeld => ?_)
                            clear hK K
                            refine done_ (by kernel_rfl) ?_
                            try go_wp2
                            refine bodyPost_ret (results_list (rs := [.tmp 2, .tmp 3, .cell 4 25]) rfl (by simp) (.tmp (.tmp (.cell gb835 25 #[.int .i64 t848, .int .i64 t849, .slice Ao32 t850.length co32] (0, 0) _ rfl (by (with_reducible repeat (first | refine blk_drewN ?_ _ | refine blk_drew ?_ | refine blk_alloc ?_ _)); refine blk_put (cs := #[.int .i64 t848, .int .i64 t849, .slice none 0 0]) ?_ 2 _ rfl; (with_reducible repeat (first | refine blk_drewN ?_ _ | refine blk_drew ?_ | refine blk_alloc ?_ _)); refine blk_put (cs := #[.int .i64 t848, .int .i64 0, .slice none 0 0]) ?_ 1 _ rfl; (with_reducible repeat (first | refine blk_drewN ?_ _ | refine blk_drew ?_ | refine blk_alloc ?_ _)); refine blk_put (cs := #[.int .i64 0, .int .i64 0, .slice none 0 0]) ?_ 0 _ rfl; (with_reducible repeat (first | refine blk_drewN ?_ _ | refine blk_drew ?_ | refine blk_alloc ?_ _)); exact BK835.out) Try.underlying25 rfl (by kernel_rfl) .nil)))) rfl ?_
                            exact ⟨_, _, _, by first | rfl | (simp [errW_none, errW_some] <;> rfl) | (simp [*, errW_none, errW_some] <;> rfl), by (with_reducible repeat (first | apply Kd.R_alloc | apply Kd.R_drewN | apply Kd.R_drew)); exact Kd.R_mono (Kd.R_far (p := ⟨gb835, 2, none⟩) (Kd.R_far (p := ⟨gb835, 1, none⟩) (Kd.R_far (p := ⟨gb835, 0, none⟩) (Kd.R_types HO895.out BK835.out (by decide)) (fun _ hk => hk.2) (.int .i64 t848)) (fun _ hk => hk.2) (.int .i64 t849)) (fun _ hk => hk.2) (.slice Ao32 t850.length co32)) (fun _ hk => ⟨hk.1.1.1.1, hk.1.2⟩), by (with_reducible repeat (first | apply Kd.R_alloc | apply Kd.R_drewN | apply Kd.R_drew)); exact Kd.R_mono (Kd.R_far (p := ⟨gb835, 2, none⟩) (Kd.R_far (p := ⟨gb835, 1, none⟩) (Kd.R_far (p := ⟨gb835, 0, none⟩) (Kd.R_types HO863.out BK835.out (by decide)) (fun _ hk => hk.2) (.int .i64 t848)) (fun _ hk => hk.2) (.int .i64 t849)) (fun _ hk => hk.2) (.slice Ao32 t850.length co32)) (fun _ hk => ⟨hk.1.1.1, hk.1.2⟩), by (with_reducible repeat (first | apply Kd.N_alloc | apply Kd.N_drewN | apply Kd.N_drew)); exact Kd.N_mono (Kd.N_far (p := ⟨gb835, 2, none⟩) (Kd.N_far (p := ⟨gb835, 1, none⟩) (Kd.N_far (p := ⟨gb835, 0, none⟩) (Kd.N_mono HO852.out (fun k_ hk => (⟨hk, hk.1.1.2.2.2.1⟩ : _ ∧ k_ ≠ gb835))) (fun _ hk => hk.2) (.int .i64 t848)) (fun _ hk => hk.2) (.int .i64 t849)) (fun _ hk => hk.2) (.slice Ao32 t850.length co32)) (fun _ hk => ⟨hk.1.1.1.1, ⟨hk.1.2, hk.1.1.2⟩⟩), by repeat (first | (with_reducible first | exact HI0.out | apply IsS99.alloc | apply IsS99.drewN | apply IsS99.drew | apply IsS99.set_1 | refine IsS99.far ?_ NB0_835.out _ | refine IsS99.far ?_ NB0_853.out _) | exact HI0.out), by repeat (first | (with_reducible first | exact HB.out | apply below_alloc | apply pw_below_drewN | apply below_drew1 | refine below_set ?_ (IsS99.ge HI0.out) | refine below_set ?_ GE835.out | refine below_set ?_ GE853.out) | exact HB.out), by repeat (first | (with_reducible first | exact HK.out | apply KeepBut.set_ | apply keep_drewN | apply keep_drew | apply keep_alloc | refine keep_far ?_ GW835.out _ | refine keep_far ?_ GW853.out _) | exact HK.out)⟩
                          · rw [if_neg c169] at H
                            have c169b0 : (t864 == 5) = false := beq_eq_false_iff_ne.mpr c169
                            have c169b1 : (t864 != 5) = true := bne_iff_ne.mpr c169
                            simp only [Option.some.injEq, Prod.mk.injEq] at H
                            obtain ⟨rfl, rfl, rfl, rfl, rfl, rfl⟩ := H
                            try go_wp2_with fail
                            have n0_ := Aside0.mk (Kd.N_drew HO_5.out)
                            have n1_ := Aside0.mk (Kd.N_drew HO852.out)
                            have n2_ := Aside0.mk (Kd.R_drew HO856.out)
                            have n3_ := Aside0.mk (Kd.V_drew HL860_0.out)
                            have n4_ := Aside0.mk (Kd.R_drew HO863.out)
                            have n5_ := Aside0.mk (blk_drew BK835.out)
                            have n6_ := Aside0.mk (blk_drew BK853.out)
                            have n7_ := Aside0.mk (IsS99.drew HI0.out)
                            have n8_ := Aside0.mk (keep_drew HK.out)
                            have n9_ := Aside0.mk (below_drew1 HB.out)
                            clear HO_5
                            clear HO852
                            clear HO856
                            clear HL860_0
                            clear HO863
                            clear BK835
                            clear BK853
                            clear HI0
                            clear HK
                            clear HB
                            have HO_5 := n0_
                            have HO852 := n1_
                            have HO856 := n2_
                            have HL860_0 := n3_
                            have HO863 := n4_
                            have BK835 := n5_
                            have BK853 := n6_
                            have HI0 := n7_
                            have HK := n8_
                            have HB := n9_
                            clear n0_ n1_ n2_ n3_ n4_ n5_ n6_ n7_ n8_ n9_
                            refine start_ (n := 6) (S := fun w' => w'.cell? ⟨gb853, 0, none⟩ = some (.int .i64 t848) ∧ w'.cell? ⟨gb853, 1, none⟩ = some (.int .i64 t849) ∧ w'.cell? ⟨gb853, 2, none⟩ = some (.slice Ao32 t850.length co32)) (ds := []) #[false, false, false, false, false, false] (by kernel_rfl) rfl rfl ⟨(blk_cell BK853.out 0).trans (by first | rfl | (simp only [*] <;> rfl)), (blk_cell BK853.out 1).trans (by first | rfl | (simp only [*] <;> rfl)), (blk_cell BK853.out 2).trans (by first | rfl | (simp only [*] <;> rfl))⟩ (fun hHeld => ?_)
                            generalize w37.drew = w202 at HO_5 HO852 HO856 HL860_0 HO863 BK835 BK853 HI0 HK HB hHeld ⊢
                            refine pure_ (i := 0) (N := some 94) (v := ?_) (a' := ?_) #[true, false, false, false, false, false] rfl rfl (by kernel_rfl) (fun _ _ _ h => h) (Or.inl ⟨by rfl, ?_⟩) ?_ ?_
                            rotate_left
                            · intro w'
                              go_simp
                              with_reducible rfl
                            rotate_left
                            · simp only [Act.put, List.setIfInBounds_toArray, List.set_cons_zero, List.set_cons_succ, i64_w, i32_w]
                              rfl
                            refine pure_ (i := 1) (N := some 95) (v := ?_) (a' := ?_) #[true, true, false, false, false, false] rfl rfl (by kernel_rfl) (fun _ _ _ h => h) (Or.inl ⟨by rfl, ?_⟩) ?_ ?_
                            rotate_left
                            · intro w'
                              go_simp
                              with_reducible rfl
                            rotate_left
                            · simp only [Act.put, List.setIfInBounds_toArray, List.set_cons_zero, List.set_cons_succ, i64_w, i32_w]
                              rfl
                            refine pure_ (i := 3) (N := some 2) (v := ?_) (a' := ?_) #[true, true, false, true, false, false] rfl rfl (by kernel_rfl) (fun _ _ _ h => h) (Or.inl ⟨by rfl, ?_⟩) ?_ ?_
                            rotate_left
                            · intro w'
                              go_simp
                              with_reducible rfl
                            rotate_left
                            · simp only [Act.put, List.setIfInBounds_toArray, List.set_cons_zero, List.set_cons_succ, i64_w, i32_w]
                              rfl
                            refine pure_ (i := 4) (N := some 3) (v := ?_) (a' := ?_) #[true, true, false, true, true, false] rfl rfl (by kernel_rfl) (fun _ _ _ h => h) (Or.inl ⟨by rfl, ?_⟩) ?_ ?_
                            rotate_left
                            · intro w'
                              go_simp
                              with_reducible rfl
                            rotate_left
                            · simp only [Act.put, List.setIfInBounds_toArray, List.set_cons_zero, List.set_cons_succ, i64_w, i32_w]
                              rfl
                            refine take_ (i := 2) (N := some 96) (v := ?_) (a' := ?_) #[true, true, true, true, true, false] rfl rfl (by kernel_rfl) (fun _ _ _ h => h) (Or.inl ⟨by rfl, ?_⟩) hHeld ?_ ?_
                            rotate_left
                            · rintro w' ⟨s0, s1, s2⟩
                              go_simp
                              with_reducible rfl
                            rotate_left
                            · simp only [Act.put, List.setIfInBounds_toArray, List.set_cons_zero, List.set_cons_succ, i64_w, i32_w]
                              rfl
                            refine one_ (i := 5) (N := none) #[true, true, true, true, true, true] rfl rfl (by kernel_rfl) (by decide) (fun K hK => ?_)
                            have hs203 : w202.cell? ⟨gb835, 0, none⟩ = some (.int .i64 0) := (blk_cell BK835.out 0).trans (by first | rfl | (simp only [*] <;> rfl))
                            have hfs203 := blk_frozen BK835.out 0
                            have hns203_1 := NB853_835.out
                            have hms203_1 := NB835_853.out
                            have hs204 : w202.cell? ⟨gb835, 1, none⟩ = some (.int .i64 0) := (blk_cell BK835.out 1).trans (by first | rfl | (simp only [*] <;> rfl))
                            have hfs204 := blk_frozen BK835.out 1
                            have hns204_1 := NB853_835.out
                            have hms204_1 := NB835_853.out
                            have hs205 : w202.cell? ⟨gb835, 2, none⟩ = some (.slice none 0 0) := (blk_cell BK835.out 2).trans (by first | rfl | (simp only [*] <;> rfl))
                            have hfs205 := blk_frozen BK835.out 2
                            have hns205_1 := NB853_835.out
                            have hms205_1 := NB835_853.out
                            refine skip_ (w1 := ?_) (by rfl) rfl ?_ ?_
                            rotate_left
                            · go_simp
                              rfl
                            refine hK.out _ _ ⟨((cell_far (p := ⟨gb835, _, none⟩) NB853_835.out _).trans (((cell_far (p := ⟨gb835, _, none⟩) NB853_835.out _).trans (((cell_far (p := ⟨gb835, _, none⟩) NB853_835.out _).trans (hHeld.1)))))), ((cell_far (p := ⟨gb835, _, none⟩) NB853_835.out _).trans (((cell_far (p := ⟨gb835, _, none⟩) NB853_835.out _).trans (((cell_far (p := ⟨gb835, _, none⟩) NB853_835.out _).trans (hHeld.2.1)))))), ((cell_far (p := ⟨gb835, _, none⟩) NB853_835.out _).trans (((cell_far (p := ⟨gb835, _, none⟩) NB853_835.out _).trans (((cell_far (p := ⟨gb835, _, none⟩) NB853_835.out _).trans (hHeld.2.2))))))⟩ (fun hHeld => ?_)
                            clear hK K
                            refine done_ (by kernel_rfl) ?_
                            try go_wp2
                            refine bodyPost_ret (results_list (rs := [.tmp 2, .tmp 3, .cell 4 25]) rfl (by simp) (.tmp (.tmp (.cell gb835 25 #[.int .i64 t848, .int .i64 t849, .slice Ao32 t850.length co32] (0, 0) _ rfl (by (with_reducible repeat (first | refine blk_drewN ?_ _ | refine blk_drew ?_ | refine blk_alloc ?_ _)); refine blk_put (cs := #[.int .i64 t848, .int .i64 t849, .slice none 0 0]) ?_ 2 _ rfl; (with_reducible repeat (first | refine blk_drewN ?_ _ | refine blk_drew ?_ | refine blk_alloc ?_ _)); refine blk_put (cs := #[.int .i64 t848, .int .i64 0, .slice none 0 0]) ?_ 1 _ rfl; (with_reducible repeat (first | refine blk_drewN ?_ _ | refine blk_drew ?_ | refine blk_alloc ?_ _)); refine blk_put (cs := #[.int .i64 0, .int .i64 0, .slice none 0 0]) ?_ 0 _ rfl; (with_reducible repeat (first | refine blk_drewN ?_ _ | refine blk_drew ?_ | refine blk_alloc ?_ _)); exact BK835.out) Try.underlying25 rfl (by kernel_rfl) .nil)))) rfl ?_
                            exact ⟨_, _, _, by first | rfl | (simp [errW_none, errW_some] <;> rfl) | (simp [*, errW_none, errW_some] <;> rfl), by (with_reducible repeat (first | apply Kd.R_alloc | apply Kd.R_drewN | apply Kd.R_drew)); exact Kd.R_mono (Kd.R_far (p := ⟨gb835, 2, none⟩) (Kd.R_far (p := ⟨gb835, 1, none⟩) (Kd.R_far (p := ⟨gb835, 0, none⟩) (Kd.R_types HO856.out BK835.out (by decide)) (fun _ hk => hk.2) (.int .i64 t848)) (fun _ hk => hk.2) (.int .i64 t849)) (fun _ hk => hk.2) (.slice Ao32 t850.length co32)) (fun _ hk => ⟨hk.1.1, hk.1.2⟩), by (with_reducible repeat (first | apply Kd.R_alloc | apply Kd.R_drewN | apply Kd.R_drew)); exact Kd.R_mono (Kd.R_far (p := ⟨gb835, 2, none⟩) (Kd.R_far (p := ⟨gb835, 1, none⟩) (Kd.R_far (p := ⟨gb835, 0, none⟩) (Kd.R_types HO863.out BK835.out (by decide)) (fun _ hk => hk.2) (.int .i64 t848)) (fun _ hk => hk.2) (.int .i64 t849)) (fun _ hk => hk.2) (.slice Ao32 t850.length co32)) (fun _ hk => ⟨hk.1.1, hk.1.2⟩), by (with_reducible repeat (first | apply Kd.N_alloc | apply Kd.N_drewN | apply Kd.N_drew)); exact Kd.N_mono (Kd.N_far (p := ⟨gb835, 2, none⟩) (Kd.N_far (p := ⟨gb835, 1, none⟩) (Kd.N_far (p := ⟨gb835, 0, none⟩) (Kd.N_mono HO852.out (fun k_ hk => (⟨hk, hk.1.2.2.2.1⟩ : _ ∧ k_ ≠ gb835))) (fun _ hk => hk.2) (.int .i64 t848)) (fun _ hk => hk.2) (.int .i64 t849)) (fun _ hk => hk.2) (.slice Ao32 t850.length co32)) (fun _ hk => ⟨hk.1.1.1, ⟨hk.1.1.2.2.1, hk.1.2⟩⟩), by repeat (first | (with_reducible first | exact HI0.out | apply IsS99.alloc | apply IsS99.drewN | apply IsS99.drew | apply IsS99.set_1 | refine IsS99.far ?_ NB0_835.out _ | refine IsS99.far ?_ NB0_853.out _) | exact HI0.out), by repeat (first | (with_reducible first | exact HB.out | apply below_alloc | apply pw_below_drewN | apply below_drew1 | refine below_set ?_ (IsS99.ge HI0.out) | refine below_set ?_ GE835.out | refine below_set ?_ GE853.out) | exact HB.out), by repeat (first | (with_reducible first | exact HK.out | apply KeepBut.set_ | apply keep_drewN | apply keep_drew | apply keep_alloc | refine keep_far ?_ GW835.out _ | refine keep_far ?_ GW853.out _) | exact HK.out)⟩
              · rw [if_neg c21] at H
                exact absurd H (by simp)
            · rw [if_neg c20] at H
              exact absurd H (by simp)
          · rw [if_neg c19] at H
            exact absurd H (by simp)

end Go.Proofs.Ytchmaojmknfbpaa.S
