/- Each function of the program that stands below is a plain Lean function, and the call of the program comes to what that function says. No condition beyond those in the statements. -/
import Derived.Test.YtbeigbkkecboiaaSx0
import Derived.Test.YtbeigbkkecboiaaBase
import Derived.Test.YtbeigbkkecboiaaShaI
import Derived.WalkSpells
namespace Go.Proofs.Ytbeigbkkecboiaa.S
open Go.RowKit Go.Proofs.YtbeigbkkecboiaaW.PrintWords Go.Proofs.YtbeigbkkecboiaaW.PrintLast Go.Proofs.YtbeigbkkecboiaaW.PrintMore
attribute [local go_sem] max2_int min2_int max_two min_two max_three min_three max_four min_four   -- for this text's walks alone
set_option linter.unusedVariables false
set_option linter.unusedSimpArgs false

-- IMPORT Derived.Test.YtbeigbkkecboiaaBase
-- IMPORT Derived.Test.YtbeigbkkecboiaaShaI
-- IMPORT Derived.WalkSpells
open Go.Proofs.Ytbeigbkkecboiaa.Base
open Go.Proofs.Ytbeigbkkecboiaa.Sha
/-! ### impl_MixRound: function 18 -/
def m32 (x : Int) : Nat := (x % 4294967296).toNat
theorem m32_cast (x : Int) : ((m32 x : Nat) : Int) = x % 4294967296 := by unfold m32; omega
theorem m32_small (l : List Int) : small (l.map m32) := by
  intro x hx
  obtain ⟨y, _, rfl⟩ := List.mem_map.1 hx
  unfold m32
  omega
def mixV (l : List Int) (a b : Int) : List Int := (mixN (l.map m32) (m32 a) (m32 b)).map fun n : Nat => (n : Int)
def impl_MixRound.f (l0 : List Int) (a1 a2 : Int) : Option (List Int) := if l0.length = 8 then some (mixV l0 a1 a2) else some []
theorem impl_mixed.callsI (s : List Nat) (hs : s.length = 8) (hm : small s) (a b : Int) (w : World) :
    Calls Try.prog 60 #[.agg (u32s s), .int .u32 (a % 4294967296), .int .u32 (b % 4294967296)] w fun r w' => r = .returned (.agg (u32s (mixN s (m32 a) (m32 b)))) ∧ Below w.heap.size w w' := by
  have h := impl_mixed.calls s hs hm (m32 a) (m32 b) w
  rw [m32_cast, m32_cast] at h
  exact h
theorem take_map_step (l : List Int) (i : Nat) (h : i < l.length) : (l.map m32).take (i + 1) = (l.map m32).take i ++ [m32 (rd l (i : Int))] := by
  rw [List.take_succ_eq_append_getElem (by simpa using h), List.getElem_map, rd_nat l i h]
theorem take_cast_step (t : List Nat) (i : Nat) (h : i < t.length) : (t.take (i + 1)).map (fun n : Nat => (n : Int)) = (t.take i).map (fun n : Nat => (n : Int)) ++ [((t.getD i 0 : Nat) : Int)] := by
  rw [List.take_succ_eq_append_getElem h, List.map_append, List.map_singleton, List.getD_eq_getElem?_getD, List.getElem?_eq_getElem h]
  rfl
set_option maxHeartbeats 8000000 in
set_option maxRecDepth 100000 in
theorem impl_MixRound.calls (A0 : Option Addr) (c0 : Nat) (l0 : List Int) (a1 a2 : Int) (r : List Int) (w : World) (hr0 : Kd.C (Kd.int .i64) w A0 l0.length l0) (hc0 : l0.length ≤ c0) (h : impl_MixRound.f l0 a1 a2 = some r) :
    Calls Try.prog 18 #[.slice A0 l0.length c0, .int .i64 a1, .int .i64 a2] w fun e w' => ∃ v0_ : Value, e = .returned (v0_) ∧ Kd.R (Kd.int .i64) 2 w' w.heap.size (fun _ => True) v0_ r ∧ Below w.heap.size w w' := by
  have HR0 := Aside0.mk hr0
  have HC0 := Aside0.mk hc0
  have HB := Aside0.mk (Below.refl w.heap.size w)
  have hu := Try.underlying64
  clear hr0 hc0
  unfold impl_MixRound.f at h
  by_cases hl : l0.length = 8
  · rw [if_pos hl] at h
    obtain rfl := Option.some.inj h
    clear h
    have HL := Aside0.mk hl
    have c2b0 : ((l0.length : Int) == 8) = true := beq_iff_eq.mpr (by omega)
    have c2b1 : ((l0.length : Int) != 8) = false := bne_eq_false_iff_eq.mpr (by omega)
    clear hl
    go_enter Try.func18, Try.ntmps18
    go_wp2_with (first | ((with_reducible refine gate_dst (N := 7) rfl ?_); refine box_event ?hg (N := 7) ?hd (cs := #[.int .u32 0, .int .u32 0, .int .u32 0, .int .u32 0, .int .u32 0, .int .u32 0, .int .u32 0, .int .u32 0]) (t := 64) ?hr ?_; (case hd => rfl); (case hg => rfl); (case hr => first | (go_simp; done) | (go_simp; rfl)); intro g7 hg w3 hbox hb; have n0_ := Aside0.mk (below_step HB.out hb); have n1_ := Aside0.mk hbox; have n2_ := Aside0.mk ((by rw [hg]; exact below_size HB.out) : w.heap.size ≤ g7); clear HB ; have HB := n0_; have B7 := n1_; have G7 := n2_; clear n0_ n1_ n2_  hb hbox hg) | ((with_reducible refine gate_store (t := 64) (p := 7) (v := .tmp 16) rfl ?_); refine stop_here ?_))
    refine stop_go ?_
    refine row_event rfl 64 (.tmp 7) (.tmp 16) rfl g7 (u32s (List.replicate 8 0)) rfl rfl 64 _ B7.out ?hi rfl (u32s_one _) rfl HB.out G7.out ?_
    case hi => kernel_rfl
    clear HB B7
    intro w4 b7 _ hb
    have HB := Aside0.mk hb
    have B7 := Aside0.mk (show w4.heap[g7]? = some (.cells (u32s ((l0.map m32).take 0 ++ List.replicate (8 - 0) 0)) 64 (0, 0)) from b7)
    clear hb b7
    go_wp2
    go_loopg [19] 8 (fun kq v19 w' => ∃ i : Nat, v19 = .int .i64 (i : Int) ∧ Aside0 (i + kq = 8) ∧ Aside0 (w'.heap[g7]? = some (.cells (u32s ((l0.map m32).take i ++ List.replicate (8 - i) 0)) 64 (0, 0))) ∧ Aside0 (Below w.heap.size w w'))
    case atStart => exact ⟨0, rfl, ⟨rfl⟩, B7, HB⟩
    case round =>
      clear B7 HB
      obtain ⟨i, rfl, HI, B7, HB⟩ := hrel
      cases gk with
      | zero =>
        have e := HI.out
        have hL := HL.out
        have c3b0 : decide ((i : Int) < (l0.length : Int)) = false := decide_eq_false (by omega)
        obtain rfl : i = 8 := by omega
        have c3b1 : decide ((8 : Int) < (l0.length : Int)) = false := decide_eq_false (by omega)
        rw [show (l0.map m32).take 8 ++ List.replicate (8 - 8) 0 = l0.map m32 by rw [List.take_of_length_le (by simp; omega)]; exact List.append_nil _] at B7
        have HS := Aside0.mk (show (l0.map m32).length = 8 by simp; omega)
        have HM := Aside0.mk (m32_small l0)
        have HT := Aside0.mk (show (mixN (l0.map m32) (m32 a1) (m32 a2)).length = 8 from mixN_length HS.out _ _)
        have HV := Aside0.mk (show mixV l0 a1 a2 = (mixN (l0.map m32) (m32 a1) (m32 a2)).map (fun n : Nat => (n : Int)) from rfl)
        have HTS := Aside0.mk (mixN_small HS.out HM.out (m32 a1) (m32 a2))
        clear e HI hL
        go_wp2_with (first | ((with_reducible refine gate_dst (N := 29) rfl ?_); refine Kd.R_lit (Kd.int .i64) _ 2 ?hg (N := 29) ?hd (xs := ([] : List Int)) (inner := []) (ok := fun _ => True) (okp := fun _ => True) ?hr ?hp (fun _ hk => hk) trivial (Below.refl _ _) (Nat.le_refl _) (by simp) ?_; (case hd => rfl); (case hg => rfl); (case hr => first | (go_simp; done) | (go_simp; rfl)); (case hp => exact (Reps.none _ _)); intro v29 w10 ho_ hb hg_ hnew_; clear hg_ hnew_; have k0_ := Aside0.mk (blk_below B7.out hb); clear B7; have B7 := k0_; clear k0_; have n0_ := Aside0.mk (Kd.R_lower ho_ (below_size (by repeat (first | (with_reducible first | exact HB.out | apply below_alloc | apply pw_below_drewN | apply below_drew1) | exact HB.out)))); have n1_ := Aside0.mk (below_step (by repeat (first | (with_reducible first | exact HB.out | apply below_alloc | apply pw_below_drewN | apply below_drew1) | exact HB.out)) hb); clear HB; have HO := n0_; have HB := n1_; clear n0_ n1_ hb ho_) | ((with_reducible refine gate_dst (N := 30) rfl ?_); refine stop_here ?_))
        refine stop_go ?_
        refine wpList_load_row rfl 64 _ rfl g7 rfl _ _ _ _ B7.out Try.underlying64 rfl ?hi ?_
        case hi => rw [u32s_size, HS.out]; kernel_rfl
        go_wp2_with (first | (go_at_call 60; refine (impl_mixed.callsI _ HS.out HM.out _ _ _).mono ?_; rintro e wm ⟨rfl, hb⟩; have n1_ := Aside0.mk (below_step HB.out hb); have n2_ := Aside0.mk (Kd.R_below (by (with_reducible repeat (first | apply Kd.R_alloc | apply Kd.R_drewN | apply Kd.R_drew)); exact HO.out) hb); clear HB HO hb B7; have HB := n1_; have HO := n2_; clear n1_ n2_))
        generalize mixN (l0.map m32) (m32 a1) (m32 a2) = t at *
        go_loopg [10, 36] 8 (fun kq v10 v36 w' => ∃ i : Nat, v36 = .int .i64 (i : Int) ∧ Aside0 (i + kq = 8) ∧ Aside0 (Kd.R (Kd.int .i64) 2 w' w.heap.size (fun _ => True) v10 ((t.take i).map (fun n : Nat => (n : Int)))) ∧ Aside0 (Below w.heap.size w w'))
        case atStart => exact ⟨0, rfl, ⟨rfl⟩, HO, HB⟩
        case round =>
          clear HO HB
          obtain ⟨i, rfl, HI, HO, HB⟩ := hrel
          cases gk with
          | zero =>
            have e := HI.out
            have c4b0 : decide ((i : Int) < 8) = false := decide_eq_false (by omega)
            obtain rfl : i = 8 := by omega
            rw [List.take_of_length_le (by rw [HT.out]; exact Nat.le_refl _), ← HV.out] at HO
            clear e HI
            go_wp2
            go_ret
            exact ⟨_, rfl, HO.out, HB.out⟩
          | succ k1 =>
            have e := HI.out
            have hT := HT.out
            have c4b0 : decide ((i : Int) < 8) = true := decide_eq_true (by omega)
            have hidx : ∀ w : World, (Instr.index 64 (.agg (u32s t)) (.int .i64 (i : Int))).run Try.prog w = .ok (.int .u32 ((t.getD i 0 : Nat) : Int)) w := fun w => run_index_u32s t i Try.underlying64 (fun _ => by kernel_rfl) (fun _ => by kernel_rfl) hT (by omega)
            have HST := Aside0.mk (take_cast_step t i (by omega))
            have HX := small_getD HTS.out i
            have hwx : IntKind.i64.wrap ((t.getD i 0 : Nat) : Int) = ((t.getD i 0 : Nat) : Int) := wrap_s (by omega) (by omega)
            have LM := Aside0.mk (show ((t.take i).map (fun n : Nat => (n : Int))).length * 8 + 8 < 140737488355328 by rw [List.length_map, List.length_take]; omega)
            generalize t.getD i 0 = x at *
            clear e hT HX
            go_wp2_with (first | ((with_reducible refine gate_builtin (b := .append) (xs := #[.tmp 39, .tmp 42]) rfl ?_); at_builtin; refine Kd.R_append (Kd.int .i64) (w0 := w) w.heap.size rfl (.tmp 39) (.tmp 42) 22 2 (.int .i64 0) 8 rfl Try.underlying22 info2 rfl (by decide) (by omega) _ ((t.take i).map (fun n : Nat => (n : Int))) (x : Int) [.int .i64 (x : Int)] (fun _ => True) (fun _ => False) rfl rfl ?aP (fun _ hk => hk.elim) ?aF ?aO ?aB ?aS ?aL ?_; (case aP => exact rfl); (case aB => exact (by repeat (first | (with_reducible first | exact HB.out | apply below_alloc | apply pw_below_drewN | apply below_drew1) | exact HB.out))); (case aF => exact (fun _ _ => trivial)); (case aO => exact (by (with_reducible repeat (first | apply Kd.R_alloc | apply Kd.R_drewN | apply Kd.R_drew)); exact HO.out)); (case aS => exact (below_size (by repeat (first | (with_reducible first | exact HB.out | apply below_alloc | apply pw_below_drewN | apply below_drew1) | exact HB.out)))); (case aL => have := LM.out; omega); intro v43 w12 ho_ hb hg hat; have n0_ := Aside0.mk hb; have n1_ := Aside0.mk ho_; clear HB HO; have HB := n0_; have HO := n1_; clear n0_ n1_ ho_ hb hg hat))
            rw [← HST.out] at HO
            go_roundg k1
            case measure => have := HI.out; omega
            case rel => exact ⟨i + 1, by first | rfl | (rw [w64s (by have := HI.out; omega)]), ⟨by have := HI.out; omega⟩, HO, HB⟩
      | succ k1 =>
        have e := HI.out
        have hL := HL.out
        have c3b0 : decide ((i : Int) < (l0.length : Int)) = true := decide_eq_true (by omega)
        have p262 : 0 ≤ (i : Int) := by omega
        have q262 : (i : Int) < (l0.length : Int) := by omega
        have c5b0 : ((i : Int) < 8) = True := eq_true (by omega)
        obtain ⟨ad, e262, hx⟩ := Kd.at_int HR0.out (i : Int) p262 q262
        cases e262
        rw [Int.toNat_natCast] at hx
        replace hx := (HB.out.cell (World.block_lt_of_cell? w _ hx)).trans hx
        replace p262 := eq_true p262
        replace q262 := eq_true q262
        have hcs : wr.cell? ⟨g7, i, none⟩ = some (.int .u32 (((((l0.map m32).take i ++ List.replicate (8 - i) 0).getD i 0 : Nat)) : Int)) := (blk_cell B7.out i).trans (u32s_get _ i (by simp; omega))
        have hfz := blk_frozen B7.out i
        have hwd := Aside0.mk (m32_cast (rd l0 (i : Int)))
        have hst := Aside0.mk (take_map_step l0 i (by omega))
        generalize rd l0 (i : Int) = x at *
        clear e hL
        go_wp2_with (first | ((with_reducible refine gate_store (t := 63) (p := 27) (v := .tmp 26) rfl ?_); refine stop_here ?_))
        refine stop_go ?_
        refine store_event (w1 := wr.setCell ⟨g7, i, none⟩ (.int .u32 ((m32 x : Nat) : Int))) rfl rfl rfl ?hr ?_
        case hr =>
          rw [hwd.out]
          go_simp
        intro w8 hw8
        have B8 := Aside0.mk (blk_set B7.out i (.int .u32 ((m32 x : Nat) : Int)))
        rw [u32s_set, ← hw8, set_fill (by have := HL.out; have := HI.out; simp; omega) (by have := HI.out; omega), ← hst.out] at B8
        have HB8 := Aside0.mk (show Below w.heap.size w w8 by rw [hw8]; exact below_set HB.out G7.out)
        clear hw8 HB B7 hcs hfz hwd hst hx
        go_wp2
        go_roundg k1
        case measure => have := HI.out; omega
        case rel => exact ⟨i + 1, by first | rfl | (rw [w64s (by have := HI.out; omega)]), ⟨by have := HI.out; omega⟩, B8, HB8⟩
  · rw [if_neg hl] at h
    obtain rfl := Option.some.inj h
    have c2b0 : ((l0.length : Int) == 8) = false := beq_eq_false_iff_ne.mpr (by omega)
    have c2b1 : ((l0.length : Int) != 8) = true := bne_iff_ne.mpr (by omega)
    clear h hl
    go_enter Try.func18, Try.ntmps18
    go_wp2
    go_ret
    exact ⟨_, rfl, Kd.R_nil _ _ _ _ _, HB.out⟩

end Go.Proofs.Ytbeigbkkecboiaa.S
