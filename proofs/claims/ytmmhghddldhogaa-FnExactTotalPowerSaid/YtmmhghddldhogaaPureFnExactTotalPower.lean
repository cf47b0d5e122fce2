import Derived.Test.YtmmhghddldhogaaBase
import Derived.Test.YtmmhghddldhogaaSxLawsToByteSY
import Derived.Test.YtmmhghddldhogaaSxLawsEqByteSY
import Derived.Test.YtmmhghddldhogaaSxImplInY
import Derived.Test.YtmmhghddldhogaaSxSpecL1InY
import Derived.Test.YtmmhghddldhogaaSxLawsSzByteSY
import Derived.Lib.Bytes
import Derived.Test.YtmmhghddldhogaaSxSpecCompareBytes
import Derived.Test.YtmmhghddldhogaaSxLawsSzValidatorSY
import Derived.Test.YtmmhghddldhogaaSxLawsToValidatorSY
import Derived.Test.YtmmhghddldhogaaSxLawsEqValidatorSY
import Derived.Test.YtmmhghddldhogaaSxSpecSetFault
import Derived.Test.YtmmhghddldhogaaSxImplSetFault
import Derived.Test.YtmmhghddldhogaaSxSpecSameBytes
import Derived.Test.YtmmhghddldhogaaSxImplKeyAtY
import Derived.Test.YtmmhghddldhogaaSxImplIsDigestY
import Derived.Test.YtmmhghddldhogaaSxLawsFnExactTotalPower
/- What the laws' own helpers on byte slices come to: toByteS copies, eqByteS compares, markByteS and heldByteS count alike. For every slice that fits memory. -/
set_option linter.unusedVariables false
namespace Go.Proofs.Ytmmhghddldhogaa.S
open Go.RowKit Go.Proofs.YtmmhghddldhogaaW.PrintWords Go.Proofs.YtmmhghddldhogaaW.PrintLast Go.Proofs.YtmmhghddldhogaaW.PrintMore Go.Proofs.Ytmmhghddldhogaa.Base

theorem toByteS_l0 (l : List Int) (hl : l.length ≤ 281474976710656) : ∀ (d : Nat) (x : List Int) (i : Nat), i + d = l.length → x.length = l.length → (∀ j, j < i → x[j]? = l[j]?) → Ev (fun k => laws_toByteS.l0 k l x (i : Int)) l := by
  intro d
  induction d with
  | zero =>
    intro x i hi hx hj
    refine ev_step (fun k => laws_toByteS.l0.eq_2 _ _ _ _) ?_
    refine ev_neg (by omega) ?_
    rw [fill_all hx (fun j h => hj j (by omega))]
    exact ev_now rfl
  | succ d ih =>
    intro x i hi hx hj
    refine ev_step (fun k => laws_toByteS.l0.eq_2 _ _ _ _) ?_
    refine ev_pos (by omega) ?_
    refine ev_pos (by omega) ?_
    refine ev_pos (by omega) ?_
    rw [w64s (by omega), Int.toNat_natCast]
    exact ih _ (i + 1) (by omega) (by rw [List.length_set]; exact hx) (fill_step (by omega) hx hj)
theorem toByteS_ev (l : List Int) (hl : l.length ≤ 281474976710656) : Ev (fun k => laws_toByteS.f k l) l := by
  unfold laws_toByteS.f
  refine ev_pos (by omega) ?_
  refine ev_pos (by omega) ?_
  exact toByteS_l0 l hl l.length _ 0 (by omega) (by simp) (fun j h => by omega)
theorem eqByteS_l0 (l : List Int) (hl : l.length ≤ 281474976710656) : ∀ (d i : Nat), i + d = l.length → Ev (fun k => laws_eqByteS.l0 k l l (i : Int)) true := by
  intro d
  induction d with
  | zero =>
    intro i hi
    refine ev_step (fun k => laws_eqByteS.l0.eq_2 _ _ _ _) ?_
    refine ev_neg (by omega) ?_
    exact ev_now rfl
  | succ d ih =>
    intro i hi
    refine ev_step (fun k => laws_eqByteS.l0.eq_2 _ _ _ _) ?_
    refine ev_pos (by omega) ?_
    refine ev_pos (by omega) ?_
    refine ev_pos (by omega) ?_
    refine ev_pos rfl ?_
    rw [w64s (by omega)]
    exact ih (i + 1) (by omega)
theorem eqByteS_ev (l : List Int) (hl : l.length ≤ 281474976710656) : Ev (fun k => laws_eqByteS.f k l l) true := by
  unfold laws_eqByteS.f
  refine ev_pos rfl ?_
  exact eqByteS_l0 l hl l.length 0 (by omega)
end Go.Proofs.Ytmmhghddldhogaa.S

/- Is a number in its bounds: the program's and the reference's answer. -/
set_option linter.unusedVariables false
namespace Go.Proofs.Ytmmhghddldhogaa.S
open Go.RowKit Go.Proofs.YtmmhghddldhogaaW.PrintWords Go.Proofs.YtmmhghddldhogaaW.PrintLast Go.Proofs.YtmmhghddldhogaaW.PrintMore Go.Proofs.Ytmmhghddldhogaa.Base

theorem in_eq (a b c : Int) : impl_in.f a b c = some (decide (b ≤ a ∧ a ≤ c)) := by
  unfold impl_in.f
  by_cases h : b ≤ a <;> simp [h]
theorem l1In_eq (a b c : Int) : spec_l1In.f a b c = some (decide (b ≤ a ∧ a ≤ c)) := by
  unfold spec_l1In.f
  by_cases h : b ≤ a <;> simp [h]
end Go.Proofs.Ytmmhghddldhogaa.S

/- How many places are left behind a slice of bytes. -/
set_option linter.unusedVariables false
namespace Go.Proofs.Ytmmhghddldhogaa.S
open Go.RowKit Go.Proofs.YtmmhghddldhogaaW.PrintWords Go.Proofs.YtmmhghddldhogaaW.PrintLast Go.Proofs.YtmmhghddldhogaaW.PrintMore Go.Proofs.Ytmmhghddldhogaa.Base

def szV (n : Nat) (a : Int) : Int := if a - n < 0 then -1 else a - n
theorem szByteS_eq (l : List Int) (a : Int) (hl : l.length ≤ 9223372036854775807) (h0 : 0 ≤ a) (h1 : a ≤ 1048576) : laws_szByteS.f l a = some (szV l.length a) := by
  unfold laws_szByteS.f szV
  rw [w64 (by omega) (by omega)]
  split <;> rfl
theorem szV_range {n : Nat} {a : Int} (h : ¬ szV n a < 0) : (n : Int) ≤ a ∧ szV n a = a - n := by
  unfold szV at h ⊢
  split at h
  · omega
  · rename_i g
    rw [if_neg g]
    exact ⟨by omega, rfl⟩
end Go.Proofs.Ytmmhghddldhogaa.S

/- Loops over a slice in one lemma each: copied element by element, counted, held. Nothing of the program stands in this text. -/
set_option linter.unusedVariables false
namespace Go.Proofs.Ytmmhghddldhogaa.Base
open Go.RowKit Go.Proofs.YtmmhghddldhogaaW.PrintWords Go.Proofs.YtmmhghddldhogaaW.PrintLast Go.Proofs.YtmmhghddldhogaaW.PrintMore

/-- From place i on to the end. -/
theorem ev_walk {α : Type} {n : Nat} {L : Nat → Int → Option α} {r : α} (hstep : ∀ i : Nat, i < n → Ev (fun k => L k ((i + 1 : Nat) : Int)) r → Ev (fun k => L k (i : Int)) r) (hend : Ev (fun k => L k (n : Int)) r) : ∀ (d i : Nat), i + d = n → Ev (fun k => L k (i : Int)) r := by
  intro d
  induction d with
  | zero => intro i hi; rw [show i = n by omega]; exact hend
  | succ d ih => intro i hi; exact hstep i (by omega) (ih (i + 1) (by omega))
/-- Each element's copy at its place. -/
theorem ev_copy {α β : Type} {l : List α} {g : α → β} {L : Nat → List β → Int → Option (List β)} (hstep : ∀ (i : Nat) (x : List β) (h : i < l.length), x.length = l.length → Ev (fun k => L k (x.set i (g l[i])) ((i + 1 : Nat) : Int)) (l.map g) → Ev (fun k => L k x (i : Int)) (l.map g))
    (hend : ∀ x : List β, Ev (fun k => L k x (l.length : Int)) x) : ∀ (d i : Nat) (x : List β), i + d = l.length → x.length = l.length → (∀ j, j < i → x[j]? = (l.map g)[j]?) → Ev (fun k => L k x (i : Int)) (l.map g) := by
  intro d
  induction d with
  | zero =>
    intro i x hi hx hj
    have e : x = l.map g := fill_all (by simpa using hx) (fun j h => hj j (by simp at h; omega))
    have h := hend x
    rw [show l.length = i by omega] at h
    rw [← e]
    exact h
  | succ d ih =>
    intro i x hi hx hj
    refine hstep i x (by omega) hx (ih (i + 1) _ (by omega) (by simpa using hx) ?_)
    intro j hj'
    rw [List.getElem?_set]
    by_cases e : i = j
    · subst e
      rw [if_pos rfl, if_pos (by omega), List.getElem?_map, List.getElem?_eq_getElem (by omega)]
      rfl
    · rw [if_neg e]
      exact hj j (by omega)
end Go.Proofs.Ytmmhghddldhogaa.Base

/- Two lists of bytes are one where their texts are one. Nothing of the program stands in this text. -/
set_option linter.unusedVariables false
namespace Go.Proofs.Ytmmhghddldhogaa.Base
open Go.RowKit Go.Proofs.YtmmhghddldhogaaW.PrintWords Go.Proofs.YtmmhghddldhogaaW.PrintLast Go.Proofs.YtmmhghddldhogaaW.PrintMore

theorem text_iff {a b : List Int} (ha : Byt a) (hb : Byt b) : (strOfNums a).toList = (strOfNums b).toList ↔ a = b := by
  rw [Lib.strOfNums_toList, Lib.strOfNums_toList]
  constructor
  · intro h
    refine strOfNums_inj ha hb ?_
    exact congrArg List.toArray h
  · intro h; rw [h]
theorem text_beq {a b : List Int} (ha : Byt a) (hb : Byt b) : ((strOfNums a).toList == (strOfNums b).toList) = decide (a = b) := by
  rw [Bool.eq_iff_iff, beq_iff_eq, decide_eq_true_iff]
  exact text_iff ha hb
end Go.Proofs.Ytmmhghddldhogaa.Base

/- What the reference's CompareBytes comes to: the order of the first unlike bytes, else of the lengths. For all slices that fit memory. -/
set_option linter.unusedVariables false
namespace Go.Proofs.Ytmmhghddldhogaa.S
open Go.RowKit Go.Proofs.YtmmhghddldhogaaW.PrintWords Go.Proofs.YtmmhghddldhogaaW.PrintLast Go.Proofs.YtmmhghddldhogaaW.PrintMore Go.Proofs.Ytmmhghddldhogaa.Base

def cmpL : List Int → List Int → Int
  | [], [] => 0
  | [], _ :: _ => -1
  | _ :: _, [] => 1
  | x :: a, y :: b => if x < y then -1 else if y < x then 1 else cmpL a b
theorem cmpL_zero : ∀ a b : List Int, cmpL a b = 0 ↔ a = b
  | [], [] => by simp [cmpL]
  | [], _ :: _ => by simp [cmpL]
  | _ :: _, [] => by simp [cmpL]
  | x :: a, y :: b => by
    have ih := cmpL_zero a b
    unfold cmpL
    by_cases h : x < y
    · rw [if_pos h]; simp; intro e; omega
    · rw [if_neg h]
      by_cases h2 : y < x
      · rw [if_pos h2]; simp; intro e; omega
      · rw [if_neg h2, ih]
        have : x = y := by omega
        simp [this]
theorem compareBytes_l0 (a b : List Int) (ha : a.length ≤ 281474976710656) (hb : b.length ≤ 281474976710656) : ∀ (d i : Nat), i + d = a.length → i ≤ b.length → Ev (fun k => spec_CompareBytes.l0 k a b (i : Int)) (cmpL (a.drop i) (b.drop i)) := by
  intro d
  induction d with
  | zero =>
    intro i hi hj
    rw [List.drop_of_length_le (l := a) (by omega)]
    refine ev_step (fun k => spec_CompareBytes.l0.eq_2 _ _ _ _) (ev_neg (by omega) ?_)
    refine ev_step (fun k => spec_CompareBytes.j1.eq_2 _ _ _ _ _) (ev_neg (by simp) ?_)
    by_cases h : (a.length : Int) < (b.length : Int)
    · refine ev_pos h ?_
      rw [List.drop_eq_getElem_cons (l := b) (i := i) (by omega)]
      exact ev_now rfl
    · refine ev_neg h (ev_neg (by omega) ?_)
      rw [List.drop_of_length_le (l := b) (by omega)]
      exact ev_now rfl
  | succ d ih =>
    intro i hi hj
    refine ev_step (fun k => spec_CompareBytes.l0.eq_2 _ _ _ _) (ev_pos (by omega) ?_)
    refine ev_step (fun k => spec_CompareBytes.j1.eq_2 _ _ _ _ _) ?_
    rw [List.drop_eq_getElem_cons (l := a) (i := i) (by omega)]
    by_cases h : (i : Int) < (b.length : Int)
    · refine ev_pos (by simpa using h) (ev_pos (by omega) (ev_pos (by omega) (ev_pos h ?_)))
      rw [List.drop_eq_getElem_cons (l := b) (i := i) (by omega), rd_nat a i (by omega), rd_nat b i (by omega)]
      unfold cmpL
      by_cases h1 : a[i] < b[i]
      · rw [if_pos h1]; exact ev_pos h1 (ev_now rfl)
      · rw [if_neg h1]
        refine ev_neg h1 ?_
        by_cases h2 : b[i] < a[i]
        · rw [if_pos h2]; exact ev_pos h2 (ev_now rfl)
        · rw [if_neg h2]
          refine ev_neg h2 ?_
          rw [w64s (by omega)]
          exact ih (i + 1) (by omega) (by omega)
    · refine ev_neg (by simpa using h) ?_
      rw [List.drop_of_length_le (l := b) (by omega)]
      exact ev_neg (by omega) (ev_pos (by omega) (ev_now rfl))
theorem compareBytes_ev (a b : List Int) (ha : a.length ≤ 281474976710656) (hb : b.length ≤ 281474976710656) : Ev (fun k => spec_CompareBytes.f k a b) (cmpL a b) :=
  compareBytes_l0 a b ha hb a.length 0 (by omega) (by omega)
end Go.Proofs.Ytmmhghddldhogaa.S

/- Validators: what the laws' helpers on a list of them, the program's SetFault and the reference's come to. For all lists that fit. -/
set_option linter.unusedVariables false
namespace Go.Proofs.Ytmmhghddldhogaa.S
open Go.RowKit Go.Proofs.YtmmhghddldhogaaW.PrintWords Go.Proofs.YtmmhghddldhogaaW.PrintLast Go.Proofs.YtmmhghddldhogaaW.PrintMore Go.Proofs.Ytmmhghddldhogaa.Base

def toV (y : S117) : S118 := ⟨y.f0, y.f1⟩
theorem rdVA (l : List S117) (i : Nat) (h : i < l.length) : rd_T117 l (i : Int) = l[i] := by
  unfold rd_T117
  simp [List.getD_eq_getElem?_getD, List.getElem?_eq_getElem h]
theorem rdVB (l : List S118) (i : Nat) (h : i < l.length) : rd_T118 l (i : Int) = l[i] := by
  unfold rd_T118
  simp [List.getD_eq_getElem?_getD, List.getElem?_eq_getElem h]
theorem szValidatorS_l0 (l : List S117) (hl : l.length ≤ 1048576) (hq : ∀ y ∈ l, y.f0.length ≤ 9223372036854775807) : ∀ (d i : Nat) (a : Int), i + d = l.length → 0 ≤ a → a ≤ 1048576 → ∃ r, Ev (fun k => laws_szValidatorS.l0 k l a (i : Int)) r ∧ (¬ r < 0 → ∀ y ∈ l.drop i, y.f0.length ≤ 1048576) := by
  intro d
  induction d with
  | zero =>
    intro i a hi h0 h1
    rw [List.drop_of_length_le (by omega)]
    exact ⟨a, ev_step (fun k => laws_szValidatorS.l0.eq_2 _ _ _ _) (ev_neg (by omega) (ev_now rfl)), fun _ y hy => by cases hy⟩
  | succ d ih =>
    intro i a hi h0 h1
    have hq' := hq l[i] (List.getElem_mem _)
    have hr := szByteS_eq l[i].f0 a hq' h0 h1
    by_cases c : szV l[i].f0.length a < 0
    · refine ⟨-1, ev_step (fun k => laws_szValidatorS.l0.eq_2 _ _ _ _) (ev_pos (by omega) (ev_pos (by omega) ?_)), fun h => absurd (by omega) h⟩
      rw [rdVA l i (by omega)]
      unfold laws_szValidator.f
      rw [hr, Option.bind_some, if_pos c]
      exact ev_bind (ev_now rfl) (ev_pos (by omega) (ev_now rfl))
    · obtain ⟨g1, g2⟩ := szV_range c
      obtain ⟨q, h2, h3⟩ := ih (i + 1) (szV l[i].f0.length a) (by omega) (by omega) (by omega)
      refine ⟨q, ev_step (fun k => laws_szValidatorS.l0.eq_2 _ _ _ _) (ev_pos (by omega) (ev_pos (by omega) ?_)), fun h y hy => ?_⟩
      · rw [rdVA l i (by omega)]
        unfold laws_szValidator.f
        rw [hr, Option.bind_some, if_neg c]
        refine ev_bind (ev_now rfl) (ev_neg c ?_)
        rw [w64s (by omega)]
        exact h2
      · rw [List.drop_eq_getElem_cons (by omega)] at hy
        rcases List.mem_cons.1 hy with rfl | hy
        · omega
        · exact h3 h y hy
theorem szValidatorS_ex (l : List S117) (hl : l.length ≤ 9223372036854775807) (hq : ∀ y ∈ l, y.f0.length ≤ 9223372036854775807) : ∃ r, Ev (fun k => laws_szValidatorS.f k l 1048576) r ∧ (¬ r < 0 → l.length ≤ 1048576 ∧ ∀ y ∈ l, y.f0.length ≤ 1048576) := by
  unfold laws_szValidatorS.f
  rw [w64 (n := 1048576 - (l.length : Int)) (by omega) (by omega)]
  by_cases c : 1048576 - (l.length : Int) < 0
  · exact ⟨-1, ev_pos c (ev_now rfl), fun h => absurd (by omega) h⟩
  · obtain ⟨r, h1, h2⟩ := szValidatorS_l0 l (by omega) hq l.length 0 (1048576 - (l.length : Int)) (by omega) (by omega) (by omega)
    exact ⟨r, ev_neg c h1, fun h => ⟨by omega, h2 h⟩⟩
theorem toValidatorS_ev (l : List S117) (hl : l.length ≤ 1048576) (hf : ∀ y ∈ l, y.f0.length ≤ 1048576) : Ev (fun k => laws_toValidatorS.f k l) (l.map toV) := by
  unfold laws_toValidatorS.f
  refine ev_pos (by omega) (ev_pos (by omega) ?_)
  refine ev_copy (g := toV) (L := fun k x i => laws_toValidatorS.l0 k l x i) ?_ ?_ l.length 0 _ (by omega) (by simp) (fun j h => by omega)
  · intro i x hi hx h
    have hq := hf l[i] (List.getElem_mem _)
    refine ev_step (fun k => laws_toValidatorS.l0.eq_2 _ _ _ _) (ev_pos (by omega) (ev_pos (by omega) ?_))
    rw [rdVA l i hi]
    refine ev_bind (a := (l[i].f0, l[i].f1)) (ev_bind (toByteS_ev _ (by omega)) (ev_now rfl)) (ev_pos (by omega) ?_)
    rw [w64s (by omega), Int.toNat_natCast]
    exact h
  · intro x
    exact ev_step (fun k => laws_toValidatorS.l0.eq_2 _ _ _ _) (ev_neg (by omega) (ev_now rfl))
theorem eqValidatorS_ev (l : List S118) (hl : l.length ≤ 1048576) (hf : ∀ y ∈ l, y.f0.length ≤ 1048576) : Ev (fun k => laws_eqValidatorS.f k l l) true := by
  unfold laws_eqValidatorS.f
  refine ev_pos rfl (ev_walk (n := l.length) (L := fun k i => laws_eqValidatorS.l0 k l l i) ?_ ?_ l.length 0 (by omega))
  · intro i hi h
    have hq := hf l[i] (List.getElem_mem _)
    refine ev_step (fun k => laws_eqValidatorS.l0.eq_2 _ _ _ _) (ev_pos (by omega) (ev_pos (by omega) (ev_pos (by omega) ?_)))
    rw [rdVB l i hi]
    refine ev_bind (a := true) ?_ (ev_pos rfl ?_)
    · unfold laws_eqValidator.f
      exact ev_bind (eqByteS_ev _ (by omega)) (ev_pos rfl (ev_pos rfl (ev_now rfl)))
    · rw [w64s (by omega)]
      exact h
  · exact ev_step (fun k => laws_eqValidatorS.l0.eq_2 _ _ _ _) (ev_neg (by omega) (ev_now rfl))
theorem spec_sameBytes_ev (a b : List Int) (ha : a.length ≤ 281474976710656) (hb : b.length ≤ 281474976710656) : Ev (fun k => spec_SameBytes.f k a b) (decide (a = b)) := by
  unfold spec_SameBytes.f
  refine ev_bind (compareBytes_ev a b ha hb) (ev_now ?_)
  congr 1
  rw [Bool.eq_iff_iff, beq_iff_eq, decide_eq_true_iff]
  exact cmpL_zero a b
/-- A key is found where it is. -/
theorem keyAt_iff (key : List Int) (hk : Byt key) : ∀ (l : List S118) (i : Int), 0 ≤ i → (∀ v ∈ l, Byt v.f0) → (impl_keyAt.at_ key l i ≥ 0 ↔ ∃ v ∈ l, v.f0 = key)
  | [], i, _, _ => by simp [impl_keyAt.at_]
  | v :: l, i, h, hb => by
    have ih := keyAt_iff key hk l (i + 1) (by omega) (fun u hu => hb u (List.mem_cons_of_mem _ hu))
    unfold impl_keyAt.at_
    rw [text_beq (hb v List.mem_cons_self) hk]
    by_cases c : v.f0 = key
    · rw [if_pos (decide_eq_true c)]
      exact ⟨fun _ => ⟨v, List.mem_cons_self, c⟩, fun _ => h⟩
    · rw [if_neg (by simpa using c), ih]
      constructor
      · rintro ⟨u, hu, e⟩
        exact ⟨u, List.mem_cons_of_mem _ hu, e⟩
      · rintro ⟨u, hu, e⟩
        rcases List.mem_cons.1 hu with rfl | hu
        · exact absurd e c
        · exact ⟨u, hu, e⟩
theorem setFault_l1 (l : List S118) (hl : l.length ≤ 5) (hf : ∀ v ∈ l, v.f0.length ≤ 1048576) (i : Nat) (hi : i < l.length) (r : Int) (hr : Ev (fun k => spec_SetFault.l0 k l ((i + 1 : Nat) : Int)) r) :
    ∀ (d j : Nat), j + d = i → (∀ v ∈ l.take j, v.f0 ≠ l[i].f0) → ∃ b : Bool, (b = true ↔ ∃ v ∈ l.take i, v.f0 = l[i].f0) ∧ Ev (fun k => spec_SetFault.l1 k l (i : Int) (j : Int)) (if b = true then 7 else r) := by
  intro d
  induction d with
  | zero =>
    intro j hj hn
    rw [show j = i by omega] at hn ⊢
    refine ⟨false, ⟨fun h => (by cases h), fun ⟨v, hv, e⟩ => absurd e (hn v hv)⟩, ?_⟩
    refine ev_step (fun k => spec_SetFault.l1.eq_2 _ _ _ _) (ev_neg (by omega) ?_)
    rw [w64s (by omega)]
    exact hr
  | succ d ih =>
    intro j hj hn
    have e := spec_sameBytes_ev l[j].f0 l[i].f0 (by have := hf l[j] (List.getElem_mem _); omega) (by have := hf l[i] (List.getElem_mem _); omega)
    by_cases c : l[j].f0 = l[i].f0
    · refine ⟨true, ⟨fun _ => ⟨l[j], ?_, c⟩, fun _ => rfl⟩, ?_⟩
      · rw [List.mem_take_iff_getElem]
        exact ⟨j, by omega, rfl⟩
      · refine ev_step (fun k => spec_SetFault.l1.eq_2 _ _ _ _) (ev_pos (by omega) (ev_pos (by omega) (ev_pos (by omega) (ev_pos (by omega) (ev_pos (by omega) ?_)))))
        rw [rdVB l i hi, rdVB l j (by omega)]
        exact ev_bind e (ev_pos (decide_eq_true c) (ev_now rfl))
    · obtain ⟨b, h1, h2⟩ := ih (j + 1) (by omega) (fun v hv => by
        rw [List.take_succ_eq_append_getElem (by omega)] at hv
        rcases List.mem_append.1 hv with hv | hv
        · exact hn v hv
        · rw [List.mem_singleton.1 hv]; exact c)
      refine ⟨b, h1, ev_step (fun k => spec_SetFault.l1.eq_2 _ _ _ _) (ev_pos (by omega) (ev_pos (by omega) (ev_pos (by omega) (ev_pos (by omega) (ev_pos (by omega) ?_)))))⟩
      rw [rdVB l i hi, rdVB l j (by omega), w64s (by omega)]
      exact ev_bind e (ev_neg (by simpa using c) h2)
theorem setFault_l0 (l : List S118) (hl : l.length ≤ 5) (hf : ∀ v ∈ l, v.f0.length ≤ 1048576 ∧ Byt v.f0) : ∀ (d i : Nat), i + d = l.length → (∀ v ∈ l.take i, 1 ≤ v.f1 ∧ v.f1 ≤ 1000) → ∃ r, (r = 0 → ∀ v ∈ l, 1 ≤ v.f1 ∧ v.f1 ≤ 1000) ∧ Ev (fun k => spec_SetFault.l0 k l (i : Int)) r ∧ Ev (fun k => impl_SetFault.l0 k l l (l.length : Int) (i : Int)) r := by
  intro d
  induction d with
  | zero =>
    intro i hi hp
    rw [List.take_of_length_le (by omega)] at hp
    exact ⟨0, fun _ => hp, ev_step (fun k => spec_SetFault.l0.eq_2 _ _ _) (ev_neg (by omega) (ev_now rfl)), ev_step (fun k => impl_SetFault.l0.eq_2 _ _ _ _ _) (ev_neg (by omega) (ev_now rfl))⟩
  | succ d ih =>
    intro i hi hp
    have hd : impl_isDigest.f l[i].f0 = some (decide (l[i].f0.length = 32)) := by
      unfold impl_isDigest.f
      congr 1
      rw [Bool.eq_iff_iff, beq_iff_eq, decide_eq_true_iff]
      omega
    by_cases c : l[i].f0.length = 32
    · by_cases p : 1 ≤ l[i].f1 ∧ l[i].f1 ≤ 1000
      · obtain ⟨r, g0, g1, g2⟩ := ih (i + 1) (by omega) (fun v hv => by
          rw [List.take_succ_eq_append_getElem (by omega)] at hv
          rcases List.mem_append.1 hv with hv | hv
          · exact hp v hv
          · rw [List.mem_singleton.1 hv]; exact p)
        obtain ⟨b, h1, h2⟩ := setFault_l1 l hl (fun v hv => (hf v hv).1) i (by omega) r g1 i 0 (by omega) (fun v hv => by simp at hv)
        have hk := keyAt_iff l[i].f0 (hf l[i] (List.getElem_mem _)).2 (l.take i) 0 (by omega) (fun v hv => (hf v (List.mem_of_mem_take hv)).2)
        have hkf : impl_keyAt.f (l.take i) l[i].f0 = some (impl_keyAt.at_ l[i].f0 (l.take i) 0) := rfl
        refine ⟨if b = true then 7 else r, fun h => g0 (by revert h; split <;> intro h <;> first | exact h | (exact absurd h (by decide))), ?_, ?_⟩
        · refine ev_step (fun k => spec_SetFault.l0.eq_2 _ _ _) (ev_pos (by omega) (ev_pos (by omega) ?_))
          rw [rdVB l i (by omega)]
          exact ev_pos (by omega) (ev_bind (ev_now (l1In_eq _ _ _)) (ev_pos (decide_eq_true p) h2))
        · refine ev_step (fun k => impl_SetFault.l0.eq_2 _ _ _ _ _) (ev_pos (by omega) (ev_pos (by omega) (ev_pos (by omega) ?_)))
          rw [rdVB l i (by omega), Int.toNat_natCast]
          refine ev_bind (ev_now hd) (ev_pos (decide_eq_true c) (ev_bind (ev_now (in_eq _ _ _)) (ev_pos (decide_eq_true p) (ev_pos (by omega) (ev_bind (ev_now hkf) ?_)))))
          cases b with
          | true => exact ev_pos (hk.2 (h1.1 rfl)) (ev_now rfl)
          | false =>
            refine ev_neg (fun h => by have := h1.2 (hk.1 h); cases this) ?_
            rw [w64s (by omega)]
            exact g2
      · refine ⟨3, fun h => absurd h (by decide), ?_, ?_⟩
        · refine ev_step (fun k => spec_SetFault.l0.eq_2 _ _ _) (ev_pos (by omega) (ev_pos (by omega) ?_))
          rw [rdVB l i (by omega)]
          exact ev_pos (by omega) (ev_bind (ev_now (l1In_eq _ _ _)) (ev_neg (by simpa using p) (ev_now rfl)))
        · refine ev_step (fun k => impl_SetFault.l0.eq_2 _ _ _ _ _) (ev_pos (by omega) (ev_pos (by omega) (ev_pos (by omega) ?_)))
          rw [rdVB l i (by omega)]
          exact ev_bind (ev_now hd) (ev_pos (decide_eq_true c) (ev_bind (ev_now (in_eq _ _ _)) (ev_neg (by simpa using p) (ev_now rfl))))
    · refine ⟨1, fun h => absurd h (by decide), ?_, ?_⟩
      · refine ev_step (fun k => spec_SetFault.l0.eq_2 _ _ _) (ev_pos (by omega) (ev_pos (by omega) ?_))
        rw [rdVB l i (by omega)]
        exact ev_neg (by omega) (ev_now rfl)
      · refine ev_step (fun k => impl_SetFault.l0.eq_2 _ _ _ _ _) (ev_pos (by omega) (ev_pos (by omega) (ev_pos (by omega) ?_)))
        rw [rdVB l i (by omega)]
        exact ev_bind (ev_now hd) (ev_neg (by simpa using c) (ev_now rfl))
theorem setFault_ev (l : List S118) (hf : ∀ v ∈ l, v.f0.length ≤ 1048576 ∧ Byt v.f0) : ∃ r, (r = 0 → l.length ≤ 5 ∧ ∀ v ∈ l, 1 ≤ v.f1 ∧ v.f1 ≤ 1000) ∧ Ev (fun k => spec_SetFault.f k l) r ∧ Ev (fun k => impl_SetFault.f k l) r := by
  unfold spec_SetFault.f impl_SetFault.f
  by_cases c0 : (l.length : Int) = 0
  · exact ⟨4, fun h => absurd h (by decide), ev_pos c0 (ev_now rfl), ev_pos c0 (ev_now rfl)⟩
  · by_cases c1 : (l.length : Int) > 5
    · exact ⟨2, fun h => absurd h (by decide), ev_neg c0 (ev_pos c1 (ev_now rfl)), ev_neg c0 (ev_pos c1 (ev_now rfl))⟩
    · obtain ⟨r, a, b, c⟩ := setFault_l0 l (by omega) hf l.length 0 (by omega) (fun v hv => by simp at hv)
      exact ⟨r, fun h => ⟨by omega, a h⟩, ev_neg c0 (ev_neg c1 b), ev_neg c0 (ev_neg c1 c)⟩
end Go.Proofs.Ytmmhghddldhogaa.S

/- The program's TotalPower and the reference's answer alike, for every list of validators. No condition. -/
set_option linter.unusedVariables false
namespace Go.Proofs.Ytmmhghddldhogaa.S
open Go.RowKit Go.Proofs.YtmmhghddldhogaaW.PrintWords Go.Proofs.YtmmhghddldhogaaW.PrintLast Go.Proofs.YtmmhghddldhogaaW.PrintMore Go.Proofs.Ytmmhghddldhogaa.Base

theorem total_l0 (l : List S118) (hl : l.length ≤ 5) (hp : ∀ v ∈ l, 1 ≤ v.f1 ∧ v.f1 ≤ 1000) : ∀ (d i : Nat) (a : Int), i + d = l.length → 0 ≤ a → a ≤ 1000 * i → ∃ r, Ev (fun k => spec_l7Total.l0 k l a (i : Int)) r ∧ Ev (fun k => impl_totalPower.l0 k a l (l.length : Int) (i : Int)) r := by
  intro d
  induction d with
  | zero =>
    intro i a hi h0 h1
    exact ⟨a, ev_step (fun k => spec_l7Total.l0.eq_2 _ _ _ _) (ev_neg (by omega) (ev_now rfl)), ev_step (fun k => impl_totalPower.l0.eq_2 _ _ _ _ _) (ev_neg (by omega) (ev_now rfl))⟩
  | succ d ih =>
    intro i a hi h0 h1
    have p := hp l[i] (List.getElem_mem _)
    obtain ⟨r, g1, g2⟩ := ih (i + 1) (a + l[i].f1) (by omega) (by omega) (by omega)
    have e : wrap64 (a + l[i].f1) = a + l[i].f1 := w64 (by omega) (by omega)
    refine ⟨r, ev_step (fun k => spec_l7Total.l0.eq_2 _ _ _ _) (ev_pos (by omega) (ev_pos (by omega) ?_)), ev_step (fun k => impl_totalPower.l0.eq_2 _ _ _ _ _) (ev_pos (by omega) (ev_pos (by omega) (ev_pos (by omega) ?_)))⟩
    · rw [rdVB l i (by omega), e, w64s (by omega)]
      exact g1
    · rw [rdVB l i (by omega), e, w64s (by omega)]
      exact g2
theorem totalPower_ev (l : List S118) (hf : ∀ v ∈ l, v.f0.length ≤ 1048576 ∧ Byt v.f0) : ∃ r, Ev (fun k => spec_TotalPower.f k l) r ∧ Ev (fun k => impl_TotalPower.f k l) r := by
  obtain ⟨q, h0, hs, hi⟩ := setFault_ev l hf
  unfold spec_TotalPower.f impl_TotalPower.f
  by_cases c : q = 0
  · obtain ⟨h1, h2⟩ := h0 c
    obtain ⟨r, g1, g2⟩ := total_l0 l h1 h2 l.length 0 0 (by omega) (by omega) (by omega)
    exact ⟨(0, r), ev_bind hs (ev_pos c (ev_bind g1 (ev_now rfl))), ev_bind hi (ev_pos c (ev_bind g2 (ev_now rfl)))⟩
  · exact ⟨(q, 0), ev_bind hs (ev_neg c (ev_now rfl)), ev_bind hi (ev_neg c (ev_now rfl))⟩
end Go.Proofs.Ytmmhghddldhogaa.S
namespace Go.Proofs.Ytmmhghddldhogaa.Pure
open Go.RowKit Go.Proofs.Ytmmhghddldhogaa.S Go.Proofs.YtmmhghddldhogaaW.PrintWords Go.Proofs.YtmmhghddldhogaaW.PrintLast Go.Proofs.YtmmhghddldhogaaW.PrintMore Go.Proofs.Ytmmhghddldhogaa.Base

theorem FnExactTotalPower : ∀ (l0 : List S117), l0.length ≤ 9223372036854775807 → (∀ y ∈ l0, (y.f0.length ≤ 9223372036854775807 ∧ ∀ y3 ∈ y.f0, (Lit.int .u8 y3).wf = true) ∧ ((Lit.int .i64 y.f1).wf = true)) → ∃ k, laws_FnExactTotalPower.f k l0 = some true := by
  intro l hl hq
  refine Ev.rounds ?_
  unfold laws_FnExactTotalPower.f
  obtain ⟨r, hr, hz⟩ := szValidatorS_ex l hl (fun y hy => (hq y hy).1.1)
  refine ev_bind hr ?_
  by_cases c : r < 0
  · exact ev_pos c (ev_now rfl)
  obtain ⟨h1, h2⟩ := hz c
  have t := toValidatorS_ev l h1 h2
  have e := eqValidatorS_ev (l.map toV) (by simpa using h1) (fun y hy => by
    obtain ⟨z, hz, rfl⟩ := List.mem_map.1 hy
    exact h2 z hz)
  obtain ⟨q, hs, hi⟩ := totalPower_ev (l.map toV) (fun y hy => by
    obtain ⟨z, hz, rfl⟩ := List.mem_map.1 hy
    exact ⟨h2 z hz, byt_of_wf (hq z hz).1.2⟩)
  exact ev_neg c (ev_bind t (ev_bind hs (ev_bind t (ev_bind hi (ev_bind (a := true) (ev_now (by simp [laws_eqIntResult.f])) (ev_pos rfl (ev_bind t (ev_bind e (ev_pos rfl (ev_now rfl))))))))))
end Go.Proofs.Ytmmhghddldhogaa.Pure
