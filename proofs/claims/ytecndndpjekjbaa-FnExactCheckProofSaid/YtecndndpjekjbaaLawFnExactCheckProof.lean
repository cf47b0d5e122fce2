/- The law FnExactCheckProof returns true at every input, and its arguments read behind the call as they did: the given statement, with no condition. -/
import Derived.Test.YtecndndpjekjbaaRows
import Derived.Test.YtecndndpjekjbaaSxLawsFnExactCheckProof
import Derived.Test.YtecndndpjekjbaaPureFnExactCheckProof
import Derived.Test.YtecndndpjekjbaaDeepRow
import Derived.WalkKit
import Derived.ProofKit
import Derived.OpenShut
import Derived.ShutString
import Derived.ChangeOld
import Derived.Below
import Derived.SizedLaws
namespace Go.Proofs.Ytecndndpjekjbaa.fnExactCheckProof
open Go.ChangeShapes Go.WideShapes Go.ChangeAt Go.RowKit Go.Proofs.Ytecndndpjekjbaa.S Go.Proofs.YtecndndpjekjbaaW.PrintWords
open Go.ChangeMaps (open_string shut_string)
set_option linter.unusedVariables false
theorem own : ownKnob Try.prog.godebug = none := by kernel_rfl
theorem laidOut : laidOutB Try.prog = true := by kernel_rfl
set_option maxRecDepth 100000 in
set_option maxHeartbeats 4000000 in
theorem lifted (os : Os) (started : os.Started) (H : Type) (enc : TypeId × Value → H) :
    ReturnsInHanded {} Try.checked os 7 .any (Rows.fnExactCheckProofSpec.pre6 enc Try.prog Try.f7 Rows.fnExactCheckProofRow.domain false) (Rows.fnExactCheckProofSpec.post enc Try.prog Try.f7 false true false false) := by
  refine returnsInHanded_of_change_sized (C := Try.checked) own started (by kernel_rfl) Try.func7
    (ChangeSpec.witness6 (enc := enc) (C := Try.checked) false ⟨#[], #[.slice none 0 0, .slice none 0 0, .agg #[.int .i64 0, .int .i64 0, .slice none 0 0]], []⟩ 8 (by kernel_rfl) (by kernel_rfl) (by kernel_rfl) (by kernel_rfl)) ?_
  intro W base args ds gs before hval0 hW hcnd hsz0 _
  have hval : ∀ (j : Nat) t v, Try.f7.params[j]? = some t → args[j]? = some v → Value.okWide Try.prog W .any base t v := hval0
  have hW' := hW
  obtain ⟨p, q, hA0, hV, rfl, hfz, hnd⟩ := hW
  have hA : DataW.TrodAll enc Try.prog W 0 (fun _ => true) true Try.f7.params.toList args.toList ds p := hA0
  rw [Try.params7] at hA hval
  obtain ⟨v0, vs0, d0, ds0, p0, q0, hargs, rfl, rfl, h0, r0⟩ := trodAll_cons hA
  obtain ⟨v1, vs1, d1, ds1, p1, q1, rfl, rfl, rfl, h1, r1⟩ := trodAll_cons r0
  obtain ⟨v2, vs2, d2, ds2, p2, q2, rfl, rfl, rfl, h2, r2⟩ := trodAll_cons r1
  obtain ⟨rfl, rfl, rfl⟩ := trodAll_nil r2
  obtain rfl : args = #[v0, v1, v2] := by cases args; simp_all
  obtain ⟨rfl, rfl⟩ := trodVars_none hV
  obtain ⟨a0, len0, cap0, rfl⟩ := okWide_slice Try.underlying22 (hval 0 22 v0 rfl rfl)
  have k0 := h0
  have lt0 : ∀ x ∈ p0, x.block < W.heap.size := by obtain ⟨m, hm⟩ := k0; exact DataW.trod_lt m _ _ _ hm
  obtain ⟨fuel0, hf0⟩ := h0
  obtain ⟨A0, n0, c0, l0, hcs0, hll0, hlc0, hC0, hQ0⟩ := Deep.row_of Try.underlying22 (by kernel_rfl) (Deep.opens_int Try.underlying5) hf0
  simp [Value.cells] at hcs0
  obtain ⟨rfl, rfl, rfl⟩ := hcs0
  subst hll0
  obtain ⟨a1, len1, cap1, rfl⟩ := okWide_slice Try.underlying22 (hval 1 22 v1 rfl rfl)
  have k1 := h1
  have lt1 : ∀ x ∈ p1, x.block < W.heap.size := by obtain ⟨m, hm⟩ := k1; exact DataW.trod_lt m _ _ _ hm
  obtain ⟨fuel1, hf1⟩ := h1
  obtain ⟨A1, n1, c1, l1, hcs1, hll1, hlc1, hC1, hQ1⟩ := Deep.row_of Try.underlying22 (by kernel_rfl) (Deep.opens_int Try.underlying5) hf1
  simp [Value.cells] at hcs1
  obtain ⟨rfl, rfl, rfl⟩ := hcs1
  subst hll1
  obtain ⟨cs2, rfl, hsz2⟩ := okWide_struct Try.underlying48 (hval 2 48 v2 rfl rfl)
  have k2 := h2
  have lt2 : ∀ x ∈ p2, x.block < W.heap.size := by obtain ⟨m, hm⟩ := k2; exact DataW.trod_lt m _ _ _ hm
  obtain ⟨fuel2, hf2⟩ := h2
  obtain ⟨y2, hK2, hQ2⟩ := (Deep.opens_struct (fun x : S48 => (x.f0, x.f1, x.f2)) (fun y => ⟨y.1, y.2.1, y.2.2⟩) (fun _ => rfl) Try.underlying48 (by kernel_rfl) (Deep.opensF_cons (by kernel_rfl) (by kernel_rfl) (Deep.opens_int Try.underlying2) (Deep.opensF_cons (by kernel_rfl) (by kernel_rfl) (Deep.opens_int Try.underlying2) (Deep.opensF_one (by kernel_rfl) (by kernel_rfl) (Deep.opens_slice 22 Try.underlying34 (by kernel_rfl) (Deep.opens_slice 5 Try.underlying22 (by kernel_rfl) (Deep.opens_int Try.underlying5))))))) _ _ _ _ _ hf2
  obtain ⟨A2_2, c2_2, hcs2, hl2_2, hC2_2⟩ := k48_open hK2
  obtain rfl : cs2 = #[.int .i64 y2.f0, .int .i64 y2.f1, .slice A2_2 y2.f2.length c2_2] := by apply Array.ext'; exact hcs2
  obtain ⟨k, hp⟩ := Pure.FnExactCheckProof l0 l1 y2 hC0.2.1 hQ0 hC1.2.1 hQ1 hQ2
  refine (laws_FnExactCheckProof.calls (r := true) (w := W) (hr0 := hC0) (hc0 := hlc0) (hr1 := hC1) (hc1 := hlc1) (hr2_2 := hC2_2) (hc2_2 := hl2_2) (h := hp)).mono fun e W' ⟨he, bel⟩ => ?_
  subst he
  exact ⟨_, rfl, _, _, _, [], _, [], hW', trodAll_mk1 (shut_bool Try.underlying4 _), (trodAll_cons_mk (Below.trod laidOut (by kernel_rfl) (of_decide_eq_true (by kernel_rfl)) k0 bel lt0) (trodAll_cons_mk (Below.trod laidOut (by kernel_rfl) (of_decide_eq_true (by kernel_rfl)) k1 bel lt1) (trodAll_cons_mk (Below.trod laidOut (by kernel_rfl) (of_decide_eq_true (by kernel_rfl)) k2 bel lt2) trodAll_mk0))), rfl, bel.frame _, fun h => by cases h⟩
theorem over : Rows.fnExactCheckProofRow.holds Try.pinned (OpenSpec.ofChange Rows.fnExactCheckProofSpec) :=
  OpenClaim.holds_of_wide 7 Try.f7 rfl rfl rfl rfl rfl rfl rfl ⟨rfl, rfl, rfl, rfl, rfl⟩ rfl rfl rfl rfl rfl (by kernel_rfl) Try.func7 (by kernel_rfl)
    (of_decide_eq_true (by kernel_rfl)) (by unfold Func.isWrapper; first | (rw [if_pos (by decide +kernel)]; kernel_rfl) | (rw [if_neg (by decide +kernel)]; exact ⟨rfl, rfl⟩))
    (fun os started H enc _ => lifted os started H enc)
theorem proved : Rows.FnExactCheckProofSaid := over
#print axioms proved
end Go.Proofs.Ytecndndpjekjbaa.fnExactCheckProof
namespace Go.Proofs.Ytecndndpjekjbaa
theorem fnExactCheckProof_holds : Rows.FnExactCheckProofSaid := fnExactCheckProof.proved
end Go.Proofs.Ytecndndpjekjbaa
