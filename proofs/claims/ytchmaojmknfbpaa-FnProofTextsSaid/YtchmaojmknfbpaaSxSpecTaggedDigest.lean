/- Each function of the program that stands below is a plain Lean function, and the call of the program comes to what that function says. No condition beyond those in the statements. -/
import Derived.Test.YtchmaojmknfbpaaSx0
import Derived.Test.YtchmaojmknfbpaaBase
import Derived.Test.YtchmaojmknfbpaaShaS
import Derived.WalkSpells
import Derived.Test.YtchmaojmknfbpaaPStr
namespace Go.Proofs.Ytchmaojmknfbpaa.S
open Go.RowKit Go.Proofs.YtchmaojmknfbpaaW.PrintWords Go.Proofs.YtchmaojmknfbpaaW.PrintLast Go.Proofs.YtchmaojmknfbpaaW.PrintMore
attribute [local go_sem] max2_int min2_int max_two min_two max_three min_three max_four min_four   -- for this text's walks alone
set_option linter.unusedVariables false
set_option linter.unusedSimpArgs false

-- IMPORT Derived.Test.YtchmaojmknfbpaaBase
-- IMPORT Derived.Test.YtchmaojmknfbpaaShaS
-- IMPORT Derived.Test.YtchmaojmknfbpaaPStr
-- IMPORT Derived.WalkSpells
open Go.Proofs.Ytchmaojmknfbpaa.Base
open Go.Proofs.Ytchmaojmknfbpaa.Sha
/-! ### spec_TaggedDigest: function 90 -/
def spec_TaggedDigest.f (a0 : ByteArray) (l1 : List Int) : Option (List Int) := spec_Digest.f ([(a0.size : Int) % 256] ++ bytesOf a0 ++ l1)
set_option maxHeartbeats 8000000 in
set_option maxRecDepth 100000 in
theorem spec_TaggedDigest.calls (a0 : ByteArray) (A1 : Option Addr) (c1 : Nat) (l1 : List Int) (r : List Int) (w : World) (hr1 : Kd.C (Kd.int .u8) w A1 l1.length l1) (hc1 : l1.length ≤ c1) (h : spec_TaggedDigest.f a0 l1 = some r) :
    Calls Try.prog 90 #[.string a0, .slice A1 l1.length c1] w fun e w' => ∃ v0_ : Value, e = .returned (v0_) ∧ Kd.R (Kd.int .u8) 5 w' w.heap.size (fun _ => True) v0_ r ∧ Below w.heap.size w w' := by
  have HR1 := Aside0.mk hr1
  have HC1 := Aside0.mk hc1
  have HB := Aside0.mk (Below.refl w.heap.size w)
  clear hr1 hc1
  have hk : ([(a0.size : Int) % 256] ++ bytesOf a0 ++ l1).length < 70000000000000 := by
    unfold spec_TaggedDigest.f spec_Digest.f spec_Digest.ok at h
    split at h
    · rename_i hk
      rw [Bool.and_eq_true] at hk
      exact of_decide_eq_true hk.2
    · cases h
  rw [List.length_append, List.length_append, List.length_singleton] at hk
  have HZ := Aside0.mk (show (bytesOf a0).length ≤ 9223372036854775807 by omega)
  have LM := Aside0.mk hk
  have H' := Aside0.mk h
  have hbo := Aside0.mk (bytesOf_length a0)
  have hm : Int.tmod (a0.size : Int) 256 % 256 = (a0.size : Int) % 256 := by rw [Int.tmod_eq_emod_of_nonneg (by omega)]; omega
  have hm2 : Int.tmod (a0.size : Int) 256 = (a0.size : Int) % 256 := by rw [Int.tmod_eq_emod_of_nonneg (by omega)]
  clear h hk
  have hcv := fun W : World => print_bytes (P := Try.prog) 9 22 5 Try.underlying9 Try.underlying22 Try.underlying5 a0 W
  go_enter Try.func90, Try.ntmps90
  go_wp2_with (first | ((with_reducible refine gate_dst (N := 9) rfl ?_); refine Kd.R_lit (Kd.int .u8) _ 5 ?hg (N := 9) ?hd (xs := ([(a0.size : Int) % 256] : List Int)) (inner := [.int .u8 ((a0.size : Int) % 256)]) (ok := fun _ => True) (okp := fun _ => True) ?hr ?hp (fun _ hk => hk) trivial (Below.refl _ _) (Nat.le_refl _) (by simp) ?_; (case hd => rfl); (case hg => rfl); (case hr => first | (go_simp; done) | (go_simp; rfl)); (case hp => exact (Reps.one (show Kd.M (Kd.int .u8) _ _ _ ((a0.size : Int) % 256) [.int .u8 ((a0.size : Int) % 256)] from rfl) (Reps.none _ _))); intro v9 w6 ho_ hb hg_ hnew_; clear hg_ hnew_; have n0_ := Aside0.mk (Kd.R_lower ho_ (below_size (by repeat (first | (with_reducible first | exact HB.out | apply below_alloc | apply pw_below_drewN | apply below_drew1) | exact HB.out)))); have n1_ := Aside0.mk (below_step (by repeat (first | (with_reducible first | exact HB.out | apply below_alloc | apply pw_below_drewN | apply below_drew1) | exact HB.out)) hb); clear HB; have HO := n0_; have HB := n1_; clear n0_ n1_ hb ho_) | ((with_reducible refine gate_dst (N := 11) rfl ?_); refine str_event ?hg (N := 11) ?hd (s := a0) (e := 5) HZ.out ?hr ?_; (case hd => rfl); (case hg => rfl); (case hr => first | (go_simp; done) | (go_simp; rfl)); intro As cs_ w8 hs_ hcs_ hb; have n0_ := Aside0.mk hs_; have n1_ := Aside0.mk hcs_; have n2_ := Aside0.mk (below_step (by repeat (first | (with_reducible first | exact HB.out | apply below_alloc | apply pw_below_drewN | apply below_drew1) | exact HB.out)) hb); have k0_ := Aside0.mk (Kd.R_below (by (with_reducible repeat (first | apply Kd.R_alloc | apply Kd.R_drewN | apply Kd.R_drew)); exact HO.out) hb); clear HB HO; have HS := n0_; have HSc := n1_; have HB := n2_; have HO := k0_; clear n0_ n1_ n2_ k0_ hb hs_ hcs_) | ((with_reducible refine gate_builtin (b := .append) (xs := #[.tmp 9, .tmp 11]) rfl ?_); at_builtin; refine Kd.R_append_rows (Kd.int .u8) (w0 := w) w.heap.size rfl (.tmp 9) (.tmp 11) 22 5 (.int .u8 0) 1 rfl Try.underlying22 info5 rfl (by decide) (by omega) _ [(a0.size : Int) % 256] (bytesOf a0) _ _ _ (fun _ => True) (fun _ => False) rfl rfl ?aO ?aR (fun _ _ h => h) (fun _ h => h.elim) ?aF ?aB ?aS ?aL ?_; (case aR => repeat (first | exact HS.out | (with_reducible refine Kd.C_alloc ?_ _) | (with_reducible refine Kd.C_drewN ?_ _) | (with_reducible refine Kd.C_drew ?_))); (case aB => exact (by repeat (first | (with_reducible first | exact HB.out | apply below_alloc | apply pw_below_drewN | apply below_drew1) | exact HB.out))); (case aF => exact (fun _ _ => trivial)); (case aO => exact (by (with_reducible repeat (first | apply Kd.R_alloc | apply Kd.R_drewN | apply Kd.R_drew)); exact HO.out)); (case aS => exact (below_size (by repeat (first | (with_reducible first | exact HB.out | apply below_alloc | apply pw_below_drewN | apply below_drew1) | exact HB.out)))); (case aL => have := LM.out; simp; omega); intro v12 w9 ho_ hb hg hat; have n0_ := Aside0.mk hb; have n1_ := Aside0.mk ho_; clear HB HO; have HB := n0_; have HO := n1_; clear n0_ n1_ ho_ hb hg hat) | ((with_reducible refine gate_builtin (b := .append) (xs := #[.tmp 12, .tmp 13]) rfl ?_); at_builtin; refine Kd.R_append_rows (Kd.int .u8) (w0 := w) w.heap.size rfl (.tmp 12) (.tmp 13) 22 5 (.int .u8 0) 1 rfl Try.underlying22 info5 rfl (by decide) (by omega) _ ([(a0.size : Int) % 256] ++ bytesOf a0) l1 _ _ _ (fun _ => True) (fun _ => False) rfl rfl ?aO ?aR (fun _ _ h => h) (fun _ h => h.elim) ?aF ?aB ?aS ?aL ?_; (case aR => repeat (first | exact (Kd.C_below HR1.out HB.out) | (with_reducible refine Kd.C_alloc ?_ _) | (with_reducible refine Kd.C_drewN ?_ _) | (with_reducible refine Kd.C_drew ?_))); (case aB => exact (by repeat (first | (with_reducible first | exact HB.out | apply below_alloc | apply pw_below_drewN | apply below_drew1) | exact HB.out))); (case aF => exact (fun _ _ => trivial)); (case aO => exact (by (with_reducible repeat (first | apply Kd.R_alloc | apply Kd.R_drewN | apply Kd.R_drew)); exact HO.out)); (case aS => exact (below_size (by repeat (first | (with_reducible first | exact HB.out | apply below_alloc | apply pw_below_drewN | apply below_drew1) | exact HB.out)))); (case aL => have := LM.out; simp; omega); intro v14 w11 ho_ hb hg hat; have n0_ := Aside0.mk hb; have n1_ := Aside0.mk ho_; clear HB HO; have HB := n0_; have HO := n1_; clear n0_ n1_ ho_ hb hg hat) | (go_at_call 103; (obtain ⟨Ax, cx, ex⟩ := Kd.R_slice HO.out); (try subst ex); refine (spec_Digest.calls Ax cx _ _ _ (Kd.R_reads' HO.out).2.2 (Kd.R_reads' HO.out).2.1 H'.out).mono ?_; rintro e w' ⟨v, rfl, ho_, hb⟩; have n0_ := Aside0.mk (Kd.R_lower ho_ (below_size HB.out)); have n1_ := Aside0.mk (below_step HB.out hb); clear HB HO; have HO := n0_; have HB := n1_; clear n0_ n1_ ho_ hb))
  go_ret
  exact ⟨_, rfl, HO.out, HB.out⟩

end Go.Proofs.Ytchmaojmknfbpaa.S
