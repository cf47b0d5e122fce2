/- Validators: what the laws' helpers on a list of them, the program's SetFault and the reference's come to. For all lists that fit. -/
import Derived.Test.YtmmhghddldhogaaPBytes
import Derived.Test.YtmmhghddldhogaaPIn
import Derived.Test.YtmmhghddldhogaaPSz
import Derived.Test.YtmmhghddldhogaaPWalk
import Derived.Test.YtmmhghddldhogaaPText
import Derived.Test.YtmmhghddldhogaaPCompare
import Derived.Test.YtmmhghddldhogaaSxLawsSzValidatorSY
import Derived.Test.YtmmhghddldhogaaSxLawsToValidatorSY
import Derived.Test.YtmmhghddldhogaaSxLawsEqValidatorSY
import Derived.Test.YtmmhghddldhogaaSxSpecSetFault
import Derived.Test.YtmmhghddldhogaaSxImplSetFault
import Derived.Test.YtmmhghddldhogaaSxSpecSameBytes
import Derived.Test.YtmmhghddldhogaaSxImplKeyAtY
import Derived.Test.YtmmhghddldhogaaSxImplIsDigestY
set_option linter.unusedVariables false
namespace Go.Proofs.Ytmmhghddldhogaa.S
open Go.RowKit Go.Proofs.YtmmhghddldhogaaW.PrintWords Go.Proofs.YtmmhghddldhogaaW.PrintLast Go.Proofs.YtmmhghddldhogaaW.PrintMore Go.Proofs.Ytmmhghddldhogaa.Base

def toV (y : S117) : S118 := ⟨y.f0, y.f1⟩
theorem rdVA (l : List S117) (i : Nat) (h : i < l.length) : rd_T117 l (i : Int) = l[i] := by
  unfold rd_T117
  simp [List.getD_eq_getElem?_getD, List.getElem?_eq_getElem h]
theorem rdVB (l : List S118) (i : Nat) (h : i < l.length) : rd_T118 l (i : Int) = l[i] := by
  unfold rd_T118
  simp [List.getD_eq_getElem?_getD, List.getElem?_eq_getElem h]
theorem szValidatorS_l0 (l : List S117) (hl : l.length ≤ 1048576) (hq : ∀ y ∈ l, y.f0.length ≤ 9223372036854775807) : ∀ (d i : Nat) (a : Int), i + d = l.length → 0 ≤ a → a ≤ 1048576 → ∃ r, Ev (fun k => laws_szValidatorS.l0 k l a (i : Int)) r ∧ (¬ r < 0 → ∀ y ∈ l.drop i, y.f0.length ≤ 1048576) := by
  intro d
  induction d with
  | zero =>
    intro i a hi h0 h1
    rw [List.drop_of_length_le (by omega)]
    exact ⟨a, ev_step (fun k => laws_szValidatorS.l0.eq_2 _ _ _ _) (ev_neg (by omega) (ev_now rfl)), fun _ y hy => by cases hy⟩
  | succ d ih =>
    intro i a hi h0 h1
    have hq' := hq l[i] (List.getElem_mem _)
    have hr := szByteS_eq l[i].f0 a hq' h0 h1
    by_cases c : szV l[i].f0.length a < 0
    · refine ⟨-1, ev_step (fun k => laws_szValidatorS.l0.eq_2 _ _ _ _) (ev_pos (by omega) (ev_pos (by omega) ?_)), fun h => absurd (by omega) h⟩
      rw [rdVA l i (by omega)]
      unfold laws_szValidator.f
      rw [hr, Option.bind_some, if_pos c]
      exact ev_bind (ev_now rfl) (ev_pos (by omega) (ev_now rfl))
    · obtain ⟨g1, g2⟩ := szV_range c
      obtain ⟨q, h2, h3⟩ := ih (i + 1) (szV l[i].f0.length a) (by omega) (by omega) (by omega)
      refine ⟨q, ev_step (fun k => laws_szValidatorS.l0.eq_2 _ _ _ _) (ev_pos (by omega) (ev_pos (by omega) ?_)), fun h y hy => ?_⟩
      · rw [rdVA l i (by omega)]
        unfold laws_szValidator.f
        rw [hr, Option.bind_some, if_neg c]
        refine ev_bind (ev_now rfl) (ev_neg c ?_)
        rw [w64s (by omega)]
        exact h2
      · rw [List.drop_eq_getElem_cons (by omega)] at hy
        rcases List.mem_cons.1 hy with rfl | hy
        · omega
        · exact h3 h y hy
theorem szValidatorS_ex (l : List S117) (hl : l.length ≤ 9223372036854775807) (hq : ∀ y ∈ l, y.f0.length ≤ 9223372036854775807) : ∃ r, Ev (fun k => laws_szValidatorS.f k l 1048576) r ∧ (¬ r < 0 → l.length ≤ 1048576 ∧ ∀ y ∈ l, y.f0.length ≤ 1048576) := by
  unfold laws_szValidatorS.f
  rw [w64 (n := 1048576 - (l.length : Int)) (by omega) (by omega)]
  by_cases c : 1048576 - (l.length : Int) < 0
  · exact ⟨-1, ev_pos c (ev_now rfl), fun h => absurd (by omega) h⟩
  · obtain ⟨r, h1, h2⟩ := szValidatorS_l0 l (by omega) hq l.length 0 (1048576 - (l.length : Int)) (by omega) (by omega) (by omega)
    exact ⟨r, ev_neg c h1, fun h => ⟨by omega, h2 h⟩⟩
theorem toValidatorS_ev (l : List S117) (hl : l.length ≤ 1048576) (hf : ∀ y ∈ l, y.f0.length ≤ 1048576) : Ev (fun k => laws_toValidatorS.f k l) (l.map toV) := by
  unfold laws_toValidatorS.f
  refine ev_pos (by omega) (ev_pos (by omega) ?_)
  refine ev_copy (g := toV) (L := fun k x i => laws_toValidatorS.l0 k l x i) ?_ ?_ l.length 0 _ (by omega) (by simp) (fun j h => by omega)
  · intro i x hi hx h
    have hq := hf l[i] (List.getElem_mem _)
    refine ev_step (fun k => laws_toValidatorS.l0.eq_2 _ _ _ _) (ev_pos (by omega) (ev_pos (by omega) ?_))
    rw [rdVA l i hi]
    refine ev_bind (a := (l[i].f0, l[i].f1)) (ev_bind (toByteS_ev _ (by omega)) (ev_now rfl)) (ev_pos (by omega) ?_)
    rw [w64s (by omega), Int.toNat_natCast]
    exact h
  · intro x
    exact ev_step (fun k => laws_toValidatorS.l0.eq_2 _ _ _ _) (ev_neg (by omega) (ev_now rfl))
theorem eqValidatorS_ev (l : List S118) (hl : l.length ≤ 1048576) (hf : ∀ y ∈ l, y.f0.length ≤ 1048576) : Ev (fun k => laws_eqValidatorS.f k l l) true := by
  unfold laws_eqValidatorS.f
  refine ev_pos rfl (ev_walk (n := l.length) (L := fun k i => laws_eqValidatorS.l0 k l l i) ?_ ?_ l.length 0 (by omega))
  · intro i hi h
    have hq := hf l[i] (List.getElem_mem _)
    refine ev_step (fun k => laws_eqValidatorS.l0.eq_2 _ _ _ _) (ev_pos (by omega) (ev_pos (by omega) (ev_pos (by omega) ?_)))
    rw [rdVB l i hi]
    refine ev_bind (a := true) ?_ (ev_pos rfl ?_)
    · unfold laws_eqValidator.f
      exact ev_bind (eqByteS_ev _ (by omega)) (ev_pos rfl (ev_pos rfl (ev_now rfl)))
    · rw [w64s (by omega)]
      exact h
  · exact ev_step (fun k => laws_eqValidatorS.l0.eq_2 _ _ _ _) (ev_neg (by omega) (ev_now rfl))
theorem spec_sameBytes_ev (a b : List Int) (ha : a.length ≤ 281474976710656) (hb : b.length ≤ 281474976710656) : Ev (fun k => spec_SameBytes.f k a b) (decide (a = b)) := by
  unfold spec_SameBytes.f
  refine ev_bind (compareBytes_ev a b ha hb) (ev_now ?_)
  congr 1
  rw [Bool.eq_iff_iff, beq_iff_eq, decide_eq_true_iff]
  exact cmpL_zero a b
/-- A key is found where it is. -/
theorem keyAt_iff (key : List Int) (hk : Byt key) : ∀ (l : List S118) (i : Int), 0 ≤ i → (∀ v ∈ l, Byt v.f0) → (impl_keyAt.at_ key l i ≥ 0 ↔ ∃ v ∈ l, v.f0 = key)
  | [], i, _, _ => by simp [impl_keyAt.at_]
  | v :: l, i, h, hb => by
    have ih := keyAt_iff key hk l (i + 1) (by omega) (fun u hu => hb u (List.mem_cons_of_mem _ hu))
    unfold impl_keyAt.at_
    rw [text_beq (hb v List.mem_cons_self) hk]
    by_cases c : v.f0 = key
    · rw [if_pos (decide_eq_true c)]
      exact ⟨fun _ => ⟨v, List.mem_cons_self, c⟩, fun _ => h⟩
    · rw [if_neg (by simpa using c), ih]
      constructor
      · rintro ⟨u, hu, e⟩
        exact ⟨u, List.mem_cons_of_mem _ hu, e⟩
      · rintro ⟨u, hu, e⟩
        rcases List.mem_cons.1 hu with rfl | hu
        · exact absurd e c
        · exact ⟨u, hu, e⟩
theorem setFault_l1 (l : List S118) (hl : l.length ≤ 5) (hf : ∀ v ∈ l, v.f0.length ≤ 1048576) (i : Nat) (hi : i < l.length) (r : Int) (hr : Ev (fun k => spec_SetFault.l0 k l ((i + 1 : Nat) : Int)) r) :
    ∀ (d j : Nat), j + d = i → (∀ v ∈ l.take j, v.f0 ≠ l[i].f0) → ∃ b : Bool, (b = true ↔ ∃ v ∈ l.take i, v.f0 = l[i].f0) ∧ Ev (fun k => spec_SetFault.l1 k l (i : Int) (j : Int)) (if b = true then 7 else r) := by
  intro d
  induction d with
  | zero =>
    intro j hj hn
    rw [show j = i by omega] at hn ⊢
    refine ⟨false, ⟨fun h => (by cases h), fun ⟨v, hv, e⟩ => absurd e (hn v hv)⟩, ?_⟩
    refine ev_step (fun k => spec_SetFault.l1.eq_2 _ _ _ _) (ev_neg (by omega) ?_)
    rw [w64s (by omega)]
    exact hr
  | succ d ih =>
    intro j hj hn
    have e := spec_sameBytes_ev l[j].f0 l[i].f0 (by have := hf l[j] (List.getElem_mem _); omega) (by have := hf l[i] (List.getElem_mem _); omega)
    by_cases c : l[j].f0 = l[i].f0
    · refine ⟨true, ⟨fun _ => ⟨l[j], ?_, c⟩, fun _ => rfl⟩, ?_⟩
      · rw [List.mem_take_iff_getElem]
        exact ⟨j, by omega, rfl⟩
      · refine ev_step (fun k => spec_SetFault.l1.eq_2 _ _ _ _) (ev_pos (by omega) (ev_pos (by omega) (ev_pos (by omega) (ev_pos (by omega) (ev_pos (by omega) ?_)))))
        rw [rdVB l i hi, rdVB l j (by omega)]
        exact ev_bind e (ev_pos (decide_eq_true c) (ev_now rfl))
    · obtain ⟨b, h1, h2⟩ := ih (j + 1) (by omega) (fun v hv => by
        rw [List.take_succ_eq_append_getElem (by omega)] at hv
        rcases List.mem_append.1 hv with hv | hv
        · exact hn v hv
        · rw [List.mem_singleton.1 hv]; exact c)
      refine ⟨b, h1, ev_step (fun k => spec_SetFault.l1.eq_2 _ _ _ _) (ev_pos (by omega) (ev_pos (by omega) (ev_pos (by omega) (ev_pos (by omega) (ev_pos (by omega) ?_)))))⟩
      rw [rdVB l i hi, rdVB l j (by omega), w64s (by omega)]
      exact ev_bind e (ev_neg (by simpa using c) h2)
theorem setFault_l0 (l : List S118) (hl : l.length ≤ 5) (hf : ∀ v ∈ l, v.f0.length ≤ 1048576 ∧ Byt v.f0) : ∀ (d i : Nat), i + d = l.length → (∀ v ∈ l.take i, 1 ≤ v.f1 ∧ v.f1 ≤ 1000) → ∃ r, (r = 0 → ∀ v ∈ l, 1 ≤ v.f1 ∧ v.f1 ≤ 1000) ∧ Ev (fun k => spec_SetFault.l0 k l (i : Int)) r ∧ Ev (fun k => impl_SetFault.l0 k l l (l.length : Int) (i : Int)) r := by
  intro d
  induction d with
  | zero =>
    intro i hi hp
    rw [List.take_of_length_le (by omega)] at hp
    exact ⟨0, fun _ => hp, ev_step (fun k => spec_SetFault.l0.eq_2 _ _ _) (ev_neg (by omega) (ev_now rfl)), ev_step (fun k => impl_SetFault.l0.eq_2 _ _ _ _ _) (ev_neg (by omega) (ev_now rfl))⟩
  | succ d ih =>
    intro i hi hp
    have hd : impl_isDigest.f l[i].f0 = some (decide (l[i].f0.length = 32)) := by
      unfold impl_isDigest.f
      congr 1
      rw [Bool.eq_iff_iff, beq_iff_eq, decide_eq_true_iff]
      omega
    by_cases c : l[i].f0.length = 32
    · by_cases p : 1 ≤ l[i].f1 ∧ l[i].f1 ≤ 1000
      · obtain ⟨r, g0, g1, g2⟩ := ih (i + 1) (by omega) (fun v hv => by
          rw [List.take_succ_eq_append_getElem (by omega)] at hv
          rcases List.mem_append.1 hv with hv | hv
          · exact hp v hv
          · rw [List.mem_singleton.1 hv]; exact p)
        obtain ⟨b, h1, h2⟩ := setFault_l1 l hl (fun v hv => (hf v hv).1) i (by omega) r g1 i 0 (by omega) (fun v hv => by simp at hv)
        have hk := keyAt_iff l[i].f0 (hf l[i] (List.getElem_mem _)).2 (l.take i) 0 (by omega) (fun v hv => (hf v (List.mem_of_mem_take hv)).2)
        have hkf : impl_keyAt.f (l.take i) l[i].f0 = some (impl_keyAt.at_ l[i].f0 (l.take i) 0) := rfl
        refine ⟨if b = true then 7 else r, fun h => g0 (by revert h; split <;> intro h <;> first | exact h | (exact absurd h (by decide))), ?_, ?_⟩
        · refine ev_step (fun k => spec_SetFault.l0.eq_2 _ _ _) (ev_pos (by omega) (ev_pos (by omega) ?_))
          rw [rdVB l i (by omega)]
          exact ev_pos (by omega) (ev_bind (ev_now (l1In_eq _ _ _)) (ev_pos (decide_eq_true p) h2))
        · refine ev_step (fun k => impl_SetFault.l0.eq_2 _ _ _ _ _) (ev_pos (by omega) (ev_pos (by omega) (ev_pos (by omega) ?_)))
          rw [rdVB l i (by omega), Int.toNat_natCast]
          refine ev_bind (ev_now hd) (ev_pos (decide_eq_true c) (ev_bind (ev_now (in_eq _ _ _)) (ev_pos (decide_eq_true p) (ev_pos (by omega) (ev_bind (ev_now hkf) ?_)))))
          cases b with
          | true => exact ev_pos (hk.2 (h1.1 rfl)) (ev_now rfl)
          | false =>
            refine ev_neg (fun h => by have := h1.2 (hk.1 h); cases this) ?_
            rw [w64s (by omega)]
            exact g2
      · refine ⟨3, fun h => absurd h (by decide), ?_, ?_⟩
        · refine ev_step (fun k => spec_SetFault.l0.eq_2 _ _ _) (ev_pos (by omega) (ev_pos (by omega) ?_))
          rw [rdVB l i (by omega)]
          exact ev_pos (by omega) (ev_bind (ev_now (l1In_eq _ _ _)) (ev_neg (by simpa using p) (ev_now rfl)))
        · refine ev_step (fun k => impl_SetFault.l0.eq_2 _ _ _ _ _) (ev_pos (by omega) (ev_pos (by omega) (ev_pos (by omega) ?_)))
          rw [rdVB l i (by omega)]
          exact ev_bind (ev_now hd) (ev_pos (decide_eq_true c) (ev_bind (ev_now (in_eq _ _ _)) (ev_neg (by simpa using p) (ev_now rfl))))
    · refine ⟨1, fun h => absurd h (by decide), ?_, ?_⟩
      · refine ev_step (fun k => spec_SetFault.l0.eq_2 _ _ _) (ev_pos (by omega) (ev_pos (by omega) ?_))
        rw [rdVB l i (by omega)]
        exact ev_neg (by omega) (ev_now rfl)
      · refine ev_step (fun k => impl_SetFault.l0.eq_2 _ _ _ _ _) (ev_pos (by omega) (ev_pos (by omega) (ev_pos (by omega) ?_)))
        rw [rdVB l i (by omega)]
        exact ev_bind (ev_now hd) (ev_neg (by simpa using c) (ev_now rfl))
theorem setFault_ev (l : List S118) (hf : ∀ v ∈ l, v.f0.length ≤ 1048576 ∧ Byt v.f0) : ∃ r, (r = 0 → l.length ≤ 5 ∧ ∀ v ∈ l, 1 ≤ v.f1 ∧ v.f1 ≤ 1000) ∧ Ev (fun k => spec_SetFault.f k l) r ∧ Ev (fun k => impl_SetFault.f k l) r := by
  unfold spec_SetFault.f impl_SetFault.f
  by_cases c0 : (l.length : Int) = 0
  · exact ⟨4, fun h => absurd h (by decide), ev_pos c0 (ev_now rfl), ev_pos c0 (ev_now rfl)⟩
  · by_cases c1 : (l.length : Int) > 5
    · exact ⟨2, fun h => absurd h (by decide), ev_neg c0 (ev_pos c1 (ev_now rfl)), ev_neg c0 (ev_pos c1 (ev_now rfl))⟩
    · obtain ⟨r, a, b, c⟩ := setFault_l0 l (by omega) hf l.length 0 (by omega) (fun v hv => by simp at hv)
      exact ⟨r, fun h => ⟨by omega, a h⟩, ev_neg c0 (ev_neg c1 b), ev_neg c0 (ev_neg c1 c)⟩
end Go.Proofs.Ytmmhghddldhogaa.S
