/- Each function of the program that stands below is a plain Lean function, and the call of the program comes to what that function says. No condition beyond those in the statements. -/
import Derived.Test.YtchmaojmknfbpaaSx0
import Derived.Test.YtchmaojmknfbpaaSxImplDigestY
import Derived.Test.YtchmaojmknfbpaaBase
import Derived.Test.YtchmaojmknfbpaaShaI
import Derived.Test.YtchmaojmknfbpaaPStr
import Derived.WalkSpells
namespace Go.Proofs.Ytchmaojmknfbpaa.S
open Go.RowKit Go.Proofs.YtchmaojmknfbpaaW.PrintWords Go.Proofs.YtchmaojmknfbpaaW.PrintLast Go.Proofs.YtchmaojmknfbpaaW.PrintMore
attribute [local go_sem] max2_int min2_int max_two min_two max_three min_three max_four min_four   -- for this text's walks alone
set_option linter.unusedVariables false
set_option linter.unusedSimpArgs false

-- IMPORT Derived.Test.YtchmaojmknfbpaaBase
-- IMPORT Derived.Test.YtchmaojmknfbpaaShaI
-- IMPORT Derived.Test.YtchmaojmknfbpaaPStr
-- IMPORT Derived.WalkSpells
open Go.Proofs.Ytchmaojmknfbpaa.Base
open Go.Proofs.Ytchmaojmknfbpaa.Sha
/-! ### impl_tagged: function 93 -/
def impl_tagged.f (a0 : ByteArray) (l1 : List (List Int)) : Option (List Int) := if 2 + l1.length < 5864062014805 then impl_digest.f ([[(a0.size : Int) % 256], bytesOf a0] ++ l1) else none
set_option maxHeartbeats 8000000 in
set_option maxRecDepth 100000 in
theorem impl_tagged.calls (a0 : ByteArray) (A1 : Option Addr) (c1 : Nat) (l1 : List (List Int)) (r : List Int) (w : World) (hr1 : Kd.C (Kd.slice 5 (Kd.int .u8)) w A1 l1.length l1) (hc1 : l1.length ≤ c1) (h : impl_tagged.f a0 l1 = some r) :
    Calls Try.prog 93 #[.string a0, .slice A1 l1.length c1] w fun e w' => ∃ v0_ : Value, e = .returned (v0_) ∧ Kd.R (Kd.int .u8) 5 w' w.heap.size (fun _ => True) v0_ r ∧ Below w.heap.size w w' := by
  have HR1 := Aside0.mk hr1
  have HF1 := Aside0.mk (Kd.C_F (Kd.heap_slice _ (Kd.heap_int _)) hr1)
  have HC1 := Aside0.mk hc1
  have HB := Aside0.mk (Below.refl w.heap.size w)
  clear hr1 hc1
  unfold impl_tagged.f at h
  by_cases hl : 2 + l1.length < 5864062014805
  · rw [if_pos hl] at h
    have hk : ([[(a0.size : Int) % 256], bytesOf a0] ++ l1).flatten.length < 70000000000000 := by
      unfold impl_digest.f impl_digest.ok at h
      split at h
      · rename_i hk
        simp only [Bool.and_eq_true, decide_eq_true_eq] at hk
        exact hk.2
      · cases h
    have hz : (bytesOf a0).length < 70000000000000 := by
      simp only [List.cons_append, List.nil_append, List.flatten_cons, List.length_append, List.length_cons, List.length_nil] at hk
      omega
    have HZ := Aside0.mk (show (bytesOf a0).length ≤ 9223372036854775807 by omega)
    have LM := Aside0.mk hl
    have H' := Aside0.mk h
    have hbo := Aside0.mk (bytesOf_length a0)
    clear h hk hz hl
    have hcv := fun W : World => print_bytes (P := Try.prog) 9 22 5 Try.underlying9 Try.underlying22 Try.underlying5 a0 W
    go_enter Try.func93, Try.ntmps93
    go_wp2_with (first | ((with_reducible refine gate_dst (N := 8) rfl ?_); refine Kd.R_lit (Kd.int .u8) _ 5 ?hg (N := 8) ?hd (xs := ([(a0.size : Int) % 256] : List Int)) (inner := [.int .u8 ((a0.size : Int) % 256)]) (ok := fun _ => True) (okp := fun _ => True) ?hr ?hp (fun _ hk => hk) trivial (Below.refl _ _) (Nat.le_refl _) (by simp) ?_; (case hd => rfl); (case hg => rfl); (case hr => first | (go_simp; done) | (go_simp; rfl)); (case hp => exact (Reps.one (show Kd.M (Kd.int .u8) _ _ _ ((a0.size : Int) % 256) [.int .u8 ((a0.size : Int) % 256)] from rfl) (Reps.none _ _))); intro v8 w6 ho_ hb hg_ hnew_; clear hg_ hnew_; have n0_ := Aside0.mk (Kd.R_lower ho_ (below_size (by repeat (first | (with_reducible first | exact HB.out | apply below_alloc | apply pw_below_drewN | apply below_drew1) | exact HB.out)))); have n1_ := Aside0.mk (below_step (by repeat (first | (with_reducible first | exact HB.out | apply below_alloc | apply pw_below_drewN | apply below_drew1) | exact HB.out)) hb); clear HB; have HO := n0_; have HB := n1_; clear n0_ n1_ hb ho_; (obtain ⟨A8, c8, e8⟩ := Kd.R_slice HO.out); subst e8) | ((with_reducible refine gate_dst (N := 10) rfl ?_); refine str_event ?hg (N := 10) ?hd (s := a0) (e := 5) HZ.out ?hr ?_; (case hd => rfl); (case hg => rfl); (case hr => first | (go_simp; done) | (go_simp; rfl)); intro As cs_ w8 hs_ hcs_ hb; have n0_ := Aside0.mk hs_; have n1_ := Aside0.mk hcs_; have n2_ := Aside0.mk (below_step (by repeat (first | (with_reducible first | exact HB.out | apply below_alloc | apply pw_below_drewN | apply below_drew1) | exact HB.out)) hb); have k0_ := Aside0.mk (Kd.R_below (by (with_reducible repeat (first | apply Kd.R_alloc | apply Kd.R_drewN | apply Kd.R_drew)); exact HO.out) hb); clear HB HO; have HS := n0_; have HSc := n1_; have HB := n2_; have HO := k0_; clear n0_ n1_ n2_ k0_ hb hs_ hcs_) | ((with_reducible refine gate_dst (N := 11) rfl ?_); refine Kd.N_lit (Kd.slice 5 (Kd.int .u8)) _ 22 ?hg (N' := 11) ?hd (xs := ([[(a0.size : Int) % 256], bytesOf a0] : List (List Int))) (inner := [.slice A8 ([(a0.size : Int) % 256] : List Int).length c8, .slice As (bytesOf a0).length cs_]) (ok := fun _ => True) (okp := fun k => k < w8.heap.size) ?hr ?hp (fun _ _ => trivial) trivial (Below.refl _ _) (Nat.le_refl _) (by simp) ?_; (case hd => rfl); (case hg => rfl); (case hr => first | (go_simp; done) | (go_simp; rfl)); (case hp => exact (Reps.one (Kd.FK_slice_mk (d := Kd.int .u8) (Kd.R_reads' HO.out).2.1 (Kd.C_F (Kd.heap_int _) (Kd.R_reads' HO.out).2.2)) (Reps.one (Kd.FK_slice_mk (d := Kd.int .u8) HSc.out (Kd.C_F (Kd.heap_int _) HS.out)) (Reps.none _ _)))); intro v11 w10 ho_ hb hg_ hnew_; clear hg_ hnew_; have n0_ := Aside0.mk (Kd.N_lower ho_ (below_size HB.out)); have n1_ := Aside0.mk (below_step HB.out hb); clear HB; have HN := n0_; have HB := n1_; clear n0_ n1_ hb ho_) | ((with_reducible refine gate_builtin (b := .append) (xs := #[.tmp 11, .tmp 12]) rfl ?_); at_builtin; refine Kd.N_append_rows (Kd.slice 5 (Kd.int .u8)) (w0 := w) w.heap.size rfl (.tmp 11) (.tmp 12) 23 22 (.slice none 0 0) 24 rfl Try.underlying23 info22 rfl (by decide) (by omega) v11 [[(a0.size : Int) % 256], bytesOf a0] l1 _ _ _ (fun _ => True) (fun k => k < w.heap.size) rfl rfl ?aO ?aR ?aK ?aF ?aB ?aS ?aL ?_; (case aR => exact (Kd.F_below HF1.out HB.out)); (case aK => exact (fun k hk => ⟨trivial, fun e => by have := Kd.N_base HN.out k e.symm; omega⟩)); (case aB => exact HB.out); (case aF => exact (fun _ _ => trivial)); (case aO => exact HN.out); (case aS => exact (below_size HB.out)); (case aL => have := LM.out; simp; omega); intro v13 w12 ho_ hb hg hat; have n0_ := Aside0.mk hb; have n1_ := Aside0.mk ho_; clear HB HN; have HB := n0_; have HN := n1_; clear n0_ n1_ ho_ hb hg hat) | (go_at_call 106; (obtain ⟨Ax, cx, ex⟩ := Kd.N_slice HN.out); (try subst ex); refine (impl_digest.calls Ax cx _ _ _ (Kd.N_reads' HN.out).2.2 (Kd.N_reads' HN.out).2.1 H'.out).mono ?_; rintro e w' ⟨v, rfl, ho_, hb⟩; have n0_ := Aside0.mk (Kd.R_lower ho_ (below_size HB.out)); have n1_ := Aside0.mk (below_step HB.out hb); clear HB HN; have HX := n0_; have HB := n1_; clear n0_ n1_ ho_ hb))
    go_ret
    exact ⟨_, rfl, HX.out, HB.out⟩
  · rw [if_neg hl] at h
    cases h

end Go.Proofs.Ytchmaojmknfbpaa.S
