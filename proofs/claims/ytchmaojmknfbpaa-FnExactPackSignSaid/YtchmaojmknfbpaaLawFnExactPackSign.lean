/- The law FnExactPackSign returns true at every input, and its arguments read behind the call as they did: the given statement, with no condition. -/
import Derived.Test.YtchmaojmknfbpaaRows
import Derived.Test.YtchmaojmknfbpaaPureFnExactPackSign
import Derived.Test.YtchmaojmknfbpaaDeepRow
import Derived.WalkKit
import Derived.ProofKit
import Derived.OpenShut
import Derived.ShutString
import Derived.ChangeOld
import Derived.Below
import Derived.SizedLaws
namespace Go.Proofs.Ytchmaojmknfbpaa.fnExactPackSign
open Go.ChangeShapes Go.WideShapes Go.ChangeAt Go.RowKit Go.Proofs.Ytchmaojmknfbpaa.S Go.Proofs.YtchmaojmknfbpaaW.PrintWords
open Go.ChangeMaps (open_string shut_string)
set_option linter.unusedVariables false
theorem own : ownKnob Try.prog.godebug = none := by kernel_rfl
theorem laidOut : laidOutB Try.prog = true := by kernel_rfl
set_option maxRecDepth 100000 in
set_option maxHeartbeats 4000000 in
theorem lifted (os : Os) (started : os.Started) (H : Type) (enc : TypeId × Value → H) :
    ReturnsInHanded {} Try.checked os 4 .any (Rows.fnExactPackSignSpec.pre6 enc Try.prog Try.f4 Rows.fnExactPackSignRow.domain false) (Rows.fnExactPackSignSpec.post enc Try.prog Try.f4 false true false false) := by
  refine returnsInHanded_of_change_sized (C := Try.checked) own started (by kernel_rfl) Try.func4
    (ChangeSpec.witness6 (enc := enc) (C := Try.checked) false ⟨#[], #[.agg #[.int .i64 0, .slice none 0 0, .int .i64 0, .int .i64 0, .slice none 0 0]], []⟩ 8 (by kernel_rfl) (by kernel_rfl) (by kernel_rfl) (by kernel_rfl)) ?_
  intro W base args ds gs before hval0 hW hcnd hsz0 _
  have hval : ∀ (j : Nat) t v, Try.f4.params[j]? = some t → args[j]? = some v → Value.okWide Try.prog W .any base t v := hval0
  have hW' := hW
  obtain ⟨p, q, hA0, hV, rfl, hfz, hnd⟩ := hW
  have hA : DataW.TrodAll enc Try.prog W 0 (fun _ => true) true Try.f4.params.toList args.toList ds p := hA0
  rw [Try.params4] at hA hval
  obtain ⟨v0, vs0, d0, ds0, p0, q0, hargs, rfl, rfl, h0, r0⟩ := trodAll_cons hA
  obtain ⟨rfl, rfl, rfl⟩ := trodAll_nil r0
  obtain rfl : args = #[v0] := by cases args; simp_all
  obtain ⟨rfl, rfl⟩ := trodVars_none hV
  obtain ⟨cs0, rfl, hsz0⟩ := okWide_struct Try.underlying39 (hval 0 39 v0 rfl rfl)
  have k0 := h0
  have lt0 : ∀ x ∈ p0, x.block < W.heap.size := by obtain ⟨m, hm⟩ := k0; exact DataW.trod_lt m _ _ _ hm
  obtain ⟨fuel0, hf0⟩ := h0
  obtain ⟨y0, hK0, hQ0⟩ := (Deep.opens_struct (fun x : S39 => (x.f0, x.f1, x.f2)) (fun y => ⟨y.1, y.2.1, y.2.2⟩) (fun _ => rfl) Try.underlying39 (by kernel_rfl) (Deep.opensF_cons (by kernel_rfl) (by kernel_rfl) (Deep.opens_int Try.underlying2) (Deep.opensF_cons (by kernel_rfl) (by kernel_rfl) (Deep.opens_slice 22 Try.underlying23 (by kernel_rfl) (Deep.opens_slice 5 Try.underlying22 (by kernel_rfl) (Deep.opens_int Try.underlying5))) (Deep.opensF_one (by kernel_rfl) (by kernel_rfl) (Deep.opens_struct (fun x : S37 => (x.f0, x.f1, x.f2)) (fun y => ⟨y.1, y.2.1, y.2.2⟩) (fun _ => rfl) Try.underlying37 (by kernel_rfl) (Deep.opensF_cons (by kernel_rfl) (by kernel_rfl) (Deep.opens_int Try.underlying2) (Deep.opensF_cons (by kernel_rfl) (by kernel_rfl) (Deep.opens_int Try.underlying2) (Deep.opensF_one (by kernel_rfl) (by kernel_rfl) (Deep.opens_slice 22 Try.underlying23 (by kernel_rfl) (Deep.opens_slice 5 Try.underlying22 (by kernel_rfl) (Deep.opens_int Try.underlying5))))))))))) _ _ _ _ _ hf0
  obtain ⟨A0_1, c0_1, A0_4, c0_4, hcs0, hl0_1, hC0_1, hl0_4, hC0_4⟩ := k39_open hK0
  obtain rfl : cs0 = #[.int .i64 y0.f0, .slice A0_1 y0.f1.length c0_1, .int .i64 y0.f2.f0, .int .i64 y0.f2.f1, .slice A0_4 y0.f2.f2.length c0_4] := by apply Array.ext'; exact hcs0
  refine (Pure.FnExactPackSign (w := W) (hr0_1 := hC0_1) (hc0_1 := hl0_1) (hr0_4 := hC0_4) (hc0_4 := hl0_4) y0 hQ0).mono fun e W' ⟨he, bel⟩ => ?_
  subst he
  exact ⟨_, rfl, _, _, _, [], _, [], hW', trodAll_mk1 (shut_bool Try.underlying4 _), (trodAll_cons_mk (Below.trod laidOut (by kernel_rfl) (of_decide_eq_true (by kernel_rfl)) k0 bel lt0) trodAll_mk0), rfl, bel.frame _, fun h => by cases h⟩
theorem over : Rows.fnExactPackSignRow.holds Try.pinned (OpenSpec.ofChange Rows.fnExactPackSignSpec) :=
  OpenClaim.holds_of_wide 4 Try.f4 rfl rfl rfl rfl rfl rfl rfl ⟨rfl, rfl, rfl, rfl, rfl⟩ rfl rfl rfl rfl rfl (by kernel_rfl) Try.func4 (by kernel_rfl)
    (of_decide_eq_true (by kernel_rfl)) (by unfold Func.isWrapper; first | (rw [if_pos (by decide +kernel)]; kernel_rfl) | (rw [if_neg (by decide +kernel)]; exact ⟨rfl, rfl⟩))
    (fun os started H enc _ => lifted os started H enc)
theorem proved : Rows.FnExactPackSignSaid := over
#print axioms proved
end Go.Proofs.Ytchmaojmknfbpaa.fnExactPackSign
namespace Go.Proofs.Ytchmaojmknfbpaa
theorem fnExactPackSign_holds : Rows.FnExactPackSignSaid := fnExactPackSign.proved
end Go.Proofs.Ytchmaojmknfbpaa
