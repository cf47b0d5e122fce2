/- The program's NextZeros and the reference's answer alike, for every list of heads. No condition. -/
import Derived.Test.YtmmhghddldhogaaPHead
import Derived.Test.YtmmhghddldhogaaPWalk
import Derived.Test.YtmmhghddldhogaaSxLawsFnExactNextZeros
set_option linter.unusedVariables false
namespace Go.Proofs.Ytmmhghddldhogaa.S
open Go.RowKit Go.Proofs.YtmmhghddldhogaaW.PrintWords Go.Proofs.YtmmhghddldhogaaW.PrintLast Go.Proofs.YtmmhghddldhogaaW.PrintMore Go.Proofs.Ytmmhghddldhogaa.Base

def toH (y : S30) : S33 := ⟨y.f0, y.f1, y.f2, y.f3, y.f4, y.f5⟩
theorem rdA (l : List S30) (i : Nat) (h : i < l.length) : rd_T30 l (i : Int) = l[i] := by
  unfold rd_T30
  simp [List.getD_eq_getElem?_getD, List.getElem?_eq_getElem h]
theorem rdB (l : List S33) (i : Nat) (h : i < l.length) : rd_T33 l (i : Int) = l[i] := by
  unfold rd_T33
  simp [List.getD_eq_getElem?_getD, List.getElem?_eq_getElem h]
def fitsA (y : S30) : Prop := y.f0.length ≤ 1048576 ∧ y.f4.length ≤ 1048576
theorem szHeadS_l0 (l : List S30) (hl : l.length ≤ 1048576) (hq : ∀ y ∈ l, y.f0.length ≤ 9223372036854775807 ∧ y.f4.length ≤ 9223372036854775807) : ∀ (d i : Nat) (a : Int), i + d = l.length → 0 ≤ a → a ≤ 1048576 → ∃ r, Ev (fun k => laws_szHeadS.l0 k l a (i : Int)) r ∧ (¬ r < 0 → ∀ y ∈ l.drop i, fitsA y) := by
  intro d
  induction d with
  | zero =>
    intro i a hi h0 h1
    rw [List.drop_of_length_le (by omega)]
    exact ⟨a, ev_step (fun k => laws_szHeadS.l0.eq_2 _ _ _ _) (ev_neg (by omega) (ev_now rfl)), fun _ y hy => by cases hy⟩
  | succ d ih =>
    intro i a hi h0 h1
    have hq' := hq l[i] (List.getElem_mem _)
    obtain ⟨r, hr, hle, hz⟩ := szHead_ex l[i].f0 l[i].f1 l[i].f2 l[i].f3 l[i].f4 l[i].f5 a hq'.1 hq'.2 h0 h1
    by_cases c : r < 0
    · refine ⟨-1, ev_step (fun k => laws_szHeadS.l0.eq_2 _ _ _ _) (ev_pos (by omega) (ev_pos (by omega) ?_)), fun h => absurd (by omega) h⟩
      rw [rdA l i (by omega)]
      exact ev_bind (ev_now hr) (ev_pos c (ev_now rfl))
    · obtain ⟨q, h2, h3⟩ := ih (i + 1) r (by omega) (by omega) (by omega)
      refine ⟨q, ev_step (fun k => laws_szHeadS.l0.eq_2 _ _ _ _) (ev_pos (by omega) (ev_pos (by omega) ?_)), fun h y hy => ?_⟩
      · rw [rdA l i (by omega)]
        refine ev_bind (ev_now hr) (ev_neg c ?_)
        rw [w64s (by omega)]
        exact h2
      · rw [List.drop_eq_getElem_cons (by omega)] at hy
        rcases List.mem_cons.1 hy with rfl | hy
        · have := hz c
          exact ⟨by omega, by omega⟩
        · exact h3 h y hy
theorem szHeadS_ex (l : List S30) (hl : l.length ≤ 9223372036854775807) (hq : ∀ y ∈ l, y.f0.length ≤ 9223372036854775807 ∧ y.f4.length ≤ 9223372036854775807) : ∃ r, Ev (fun k => laws_szHeadS.f k l 1048576) r ∧ (¬ r < 0 → l.length ≤ 1048576 ∧ ∀ y ∈ l, fitsA y) := by
  unfold laws_szHeadS.f
  rw [w64 (n := 1048576 - (l.length : Int)) (by omega) (by omega)]
  by_cases c : 1048576 - (l.length : Int) < 0
  · exact ⟨-1, ev_pos c (ev_now rfl), fun h => absurd (by omega) h⟩
  · obtain ⟨r, h1, h2⟩ := szHeadS_l0 l (by omega) hq l.length 0 (1048576 - (l.length : Int)) (by omega) (by omega) (by omega)
    exact ⟨r, ev_neg c h1, fun h => ⟨by omega, h2 h⟩⟩
theorem toHeadS_ev (l : List S30) (hl : l.length ≤ 1048576) (hf : ∀ y ∈ l, fitsA y) : Ev (fun k => laws_toHeadS.f k l) (l.map toH) := by
  unfold laws_toHeadS.f
  refine ev_pos (by omega) (ev_pos (by omega) ?_)
  refine ev_copy (g := toH) (L := fun k x i => laws_toHeadS.l0 k l x i) ?_ ?_ l.length 0 _ (by omega) (by simp) (fun j h => by omega)
  · intro i x hi hx h
    have hq := hf l[i] (List.getElem_mem _)
    refine ev_step (fun k => laws_toHeadS.l0.eq_2 _ _ _ _) (ev_pos (by omega) (ev_pos (by omega) ?_))
    rw [rdA l i hi]
    refine ev_bind (toHead_ev _ _ _ _ _ _ (by have := hq.1; omega) (by have := hq.2; omega)) (ev_pos (by omega) ?_)
    rw [w64s (by omega), Int.toNat_natCast]
    exact h
  · intro x
    exact ev_step (fun k => laws_toHeadS.l0.eq_2 _ _ _ _) (ev_neg (by omega) (ev_now rfl))
theorem eqHeadS_ev (l : List S33) (hl : l.length ≤ 1048576) (hf : ∀ y ∈ l, y.f0.length ≤ 1048576 ∧ y.f4.length ≤ 1048576) : Ev (fun k => laws_eqHeadS.f k l l) true := by
  unfold laws_eqHeadS.f
  refine ev_pos rfl (ev_walk (n := l.length) (L := fun k i => laws_eqHeadS.l0 k l l i) ?_ ?_ l.length 0 (by omega))
  · intro i hi h
    have hq := hf l[i] (List.getElem_mem _)
    refine ev_step (fun k => laws_eqHeadS.l0.eq_2 _ _ _ _) (ev_pos (by omega) (ev_pos (by omega) (ev_pos (by omega) ?_)))
    rw [rdB l i hi]
    refine ev_bind (eqHead_ev _ _ _ _ _ _ (by have := hq.1; omega) (by have := hq.2; omega)) (ev_pos rfl ?_)
    rw [w64s (by omega)]
    exact h
  · exact ev_step (fun k => laws_eqHeadS.l0.eq_2 _ _ _ _) (ev_neg (by omega) (ev_now rfl))
/-- The zeros behind the last head. -/
theorem zeros_ev (l : List S33) (h0 : 0 < l.length) (hl : l.length ≤ 24) (hf : ∀ y ∈ l, 0 ≤ y.f3 ∧ y.f3 ≤ 40) : ∃ r, Ev (fun k => spec_l5Zeros.f k l) r ∧ Ev (fun k => impl_nextZeros.f k l) r := by
  unfold spec_l5Zeros.f impl_nextZeros.f
  have e1 : wrap64 ((l.length : Int) - 1) = ((l.length - 1 : Nat) : Int) := by rw [w64 (by omega) (by omega)]; omega
  have hz := hf l[l.length - 1] (List.getElem_mem _)
  rw [e1, rdB l (l.length - 1) (by omega)]
  generalize l[l.length - 1] = z at hz
  obtain ⟨f0, f1, f2, f3, f4, f5⟩ := z
  simp only at hz ⊢
  have j : ∀ b : Bool, (b = false → 4 < l.length) → ∃ r, Ev (fun k => spec_l5Zeros.j0 k l (l.length : Int) b f0 f1 f2 f3 f4 f5) r ∧ Ev (fun k => impl_nextZeros.j0 k l b f0 f1 f2 f3 f4 f5) r := by
    intro b hb
    cases b with
    | true => exact ⟨f3, ev_step (fun k => spec_l5Zeros.j0.eq_2 _ _ _ _ _ _ _ _ _ _) (ev_pos rfl (ev_now rfl)), ev_step (fun k => impl_nextZeros.j0.eq_2 _ _ _ _ _ _ _ _ _) (ev_pos rfl (ev_now rfl))⟩
    | false =>
      have h4 := hb rfl
      have e2 : wrap64 (((l.length - 1 : Nat) : Int) - 4) = ((l.length - 5 : Nat) : Int) := by rw [w64 (by omega) (by omega)]; omega
      have e3 : wrap64 (f3 + 1) = f3 + 1 := w64 (by omega) (by omega)
      have e4 : wrap64 (f3 - 1) = f3 - 1 := w64 (by omega) (by omega)
      generalize ht : wrap64 (f2 - (rd_T33 l ((l.length - 5 : Nat) : Int)).f2) = t
      by_cases c1 : t < 20
      · refine ⟨mn (f3 + 1) 40, ev_step (fun k => spec_l5Zeros.j0.eq_2 _ _ _ _ _ _ _ _ _ _) ?_, ev_step (fun k => impl_nextZeros.j0.eq_2 _ _ _ _ _ _ _ _ _) ?_⟩
        · rw [e1, e2, e3, ht]
          refine ev_neg (by decide) (ev_pos (by omega) (ev_pos (by omega) (ev_pos c1 (ev_bind (a := mn (f3 + 1) 40) (ev_now ?_) (ev_now rfl)))))
          unfold spec_l1Min.f mn
          split <;> rfl
        · rw [e1, e2, e3, ht]
          exact ev_neg (by decide) (ev_pos (by omega) (ev_pos (by omega) (ev_pos c1 (ev_now rfl))))
      · by_cases c2 : t > 80
        · refine ⟨mx (f3 - 1) 0, ev_step (fun k => spec_l5Zeros.j0.eq_2 _ _ _ _ _ _ _ _ _ _) ?_, ev_step (fun k => impl_nextZeros.j0.eq_2 _ _ _ _ _ _ _ _ _) ?_⟩
          · rw [e1, e2, e4, ht]
            refine ev_neg (by decide) (ev_pos (by omega) (ev_pos (by omega) (ev_neg c1 (ev_pos c2 (ev_bind (a := mx (f3 - 1) 0) (ev_now ?_) (ev_now rfl))))))
            unfold spec_l1Max.f mx
            split <;> rfl
          · rw [e1, e2, e4, ht]
            exact ev_neg (by decide) (ev_pos (by omega) (ev_pos (by omega) (ev_neg c1 (ev_pos c2 (ev_now rfl)))))
        · refine ⟨f3, ev_step (fun k => spec_l5Zeros.j0.eq_2 _ _ _ _ _ _ _ _ _ _) ?_, ev_step (fun k => impl_nextZeros.j0.eq_2 _ _ _ _ _ _ _ _ _) ?_⟩
          · rw [e1, e2, ht]
            exact ev_neg (by decide) (ev_pos (by omega) (ev_pos (by omega) (ev_neg c1 (ev_neg c2 (ev_now rfl)))))
          · rw [e1, e2, ht]
            exact ev_neg (by decide) (ev_pos (by omega) (ev_pos (by omega) (ev_neg c1 (ev_neg c2 (ev_now rfl)))))
  by_cases c : (l.length : Int) ≤ 4
  · obtain ⟨r, a, b⟩ := j true (fun h => by cases h)
    exact ⟨r, ev_pos (by omega) (ev_pos (by omega) (ev_pos c a)), ev_pos (by omega) (ev_pos (by omega) (ev_pos c b))⟩
  · obtain ⟨r, a, b⟩ := j (Int.tmod f1 4 != 0) (fun _ => by omega)
    exact ⟨r, ev_pos (by omega) (ev_pos (by omega) (ev_neg c a)), ev_pos (by omega) (ev_pos (by omega) (ev_neg c b))⟩
theorem nextZeros_l0 (l : List S33) (h0 : 0 < l.length) (hl : l.length ≤ 24) : ∀ (d i : Nat), i + d = l.length → (∀ y ∈ l.take i, 0 ≤ y.f3 ∧ y.f3 ≤ 40) → ∃ r, Ev (fun k => spec_NextZeros.l0 k l (i : Int)) r ∧ Ev (fun k => impl_NextZeros.l0 k l l (l.length : Int) (i : Int)) r := by
  intro d
  induction d with
  | zero =>
    intro i hi hf
    rw [List.take_of_length_le (by omega)] at hf
    obtain ⟨r, h1, h2⟩ := zeros_ev l h0 hl hf
    exact ⟨(0, r), ev_step (fun k => spec_NextZeros.l0.eq_2 _ _ _) (ev_neg (by omega) (ev_bind h1 (ev_now rfl))), ev_step (fun k => impl_NextZeros.l0.eq_2 _ _ _ _ _) (ev_neg (by omega) (ev_bind h2 (ev_now rfl)))⟩
  | succ d ih =>
    intro i hi hf
    have hs := spec_headFault_ev l[i].f0 l[i].f1 l[i].f2 l[i].f3 l[i].f4 l[i].f5
    have hm := impl_headFault_eq l[i].f0 l[i].f1 l[i].f2 l[i].f3 l[i].f4 l[i].f5
    by_cases c : headFaultV l[i].f0 l[i].f1 l[i].f2 l[i].f3 l[i].f4 l[i].f5 = 0
    · obtain ⟨r, h1, h2⟩ := ih (i + 1) (by omega) (fun y hy => by
        rw [List.take_succ_eq_append_getElem (by omega)] at hy
        rcases List.mem_append.1 hy with hy | hy
        · exact hf y hy
        · rw [List.mem_singleton.1 hy]
          unfold headFaultV at c
          split at c
          · omega
          · split at c
            · rename_i h; exact h.2.2.1
            · omega)
      refine ⟨r, ev_step (fun k => spec_NextZeros.l0.eq_2 _ _ _) (ev_pos (by omega) (ev_pos (by omega) ?_)), ev_step (fun k => impl_NextZeros.l0.eq_2 _ _ _ _ _) (ev_pos (by omega) (ev_pos (by omega) (ev_pos (by omega) ?_)))⟩
      · rw [rdB l i (by omega), w64s (by omega)]
        exact ev_bind hs (ev_pos c h1)
      · rw [rdB l i (by omega), w64s (by omega)]
        exact ev_bind (ev_now hm) (ev_pos c h2)
    · refine ⟨(headFaultV l[i].f0 l[i].f1 l[i].f2 l[i].f3 l[i].f4 l[i].f5, 0), ev_step (fun k => spec_NextZeros.l0.eq_2 _ _ _) (ev_pos (by omega) (ev_pos (by omega) ?_)), ev_step (fun k => impl_NextZeros.l0.eq_2 _ _ _ _ _) (ev_pos (by omega) (ev_pos (by omega) (ev_pos (by omega) ?_)))⟩
      · rw [rdB l i (by omega)]
        exact ev_bind hs (ev_neg c (ev_now rfl))
      · rw [rdB l i (by omega)]
        exact ev_bind (ev_now hm) (ev_neg c (ev_now rfl))
theorem nextZeros_ev (l : List S33) : ∃ r, Ev (fun k => spec_NextZeros.f k l) r ∧ Ev (fun k => impl_NextZeros.f k l) r := by
  unfold spec_NextZeros.f impl_NextZeros.f
  by_cases c0 : (l.length : Int) = 0
  · exact ⟨(4, 0), ev_pos c0 (ev_now rfl), ev_pos c0 (ev_now rfl)⟩
  · by_cases c1 : (l.length : Int) > 24
    · exact ⟨(2, 0), ev_neg c0 (ev_pos c1 (ev_now rfl)), ev_neg c0 (ev_pos c1 (ev_now rfl))⟩
    · obtain ⟨r, a, b⟩ := nextZeros_l0 l (by omega) (by omega) l.length 0 (by omega) (fun y hy => by simp at hy)
      exact ⟨r, ev_neg c0 (ev_neg c1 a), ev_neg c0 (ev_neg c1 b)⟩
end Go.Proofs.Ytmmhghddldhogaa.S
namespace Go.Proofs.Ytmmhghddldhogaa.Pure
open Go.RowKit Go.Proofs.Ytmmhghddldhogaa.S Go.Proofs.YtmmhghddldhogaaW.PrintWords Go.Proofs.YtmmhghddldhogaaW.PrintLast Go.Proofs.YtmmhghddldhogaaW.PrintMore Go.Proofs.Ytmmhghddldhogaa.Base

theorem FnExactNextZeros : ∀ (l0 : List S30), l0.length ≤ 9223372036854775807 → (∀ y ∈ l0, (y.f0.length ≤ 9223372036854775807 ∧ ∀ y3 ∈ y.f0, (Lit.int .u8 y3).wf = true) ∧ ((Lit.int .i64 y.f1).wf = true) ∧ ((Lit.int .i64 y.f2).wf = true) ∧ ((Lit.int .i64 y.f3).wf = true) ∧ (y.f4.length ≤ 9223372036854775807 ∧ ∀ y3 ∈ y.f4, (Lit.int .u8 y3).wf = true) ∧ ((Lit.int .i64 y.f5).wf = true)) → ∃ k, laws_FnExactNextZeros.f k l0 = some true := by
  intro l hl hq
  refine Ev.rounds ?_
  unfold laws_FnExactNextZeros.f
  obtain ⟨r, hr, hz⟩ := szHeadS_ex l hl (fun y hy => ⟨(hq y hy).1.1, (hq y hy).2.2.2.2.1.1⟩)
  refine ev_bind hr ?_
  by_cases c : r < 0
  · exact ev_pos c (ev_now rfl)
  obtain ⟨h1, h2⟩ := hz c
  have t := toHeadS_ev l h1 h2
  have e := eqHeadS_ev (l.map toH) (by simpa using h1) (fun y hy => by
    obtain ⟨z, hz, rfl⟩ := List.mem_map.1 hy
    exact h2 z hz)
  obtain ⟨q, hs, hi⟩ := nextZeros_ev (l.map toH)
  exact ev_neg c (ev_bind t (ev_bind hs (ev_bind t (ev_bind hi (ev_bind (a := true) (ev_now (by simp [laws_eqIntResult.f])) (ev_pos rfl (ev_bind t (ev_bind e (ev_pos rfl (ev_now rfl))))))))))
end Go.Proofs.Ytmmhghddldhogaa.Pure
