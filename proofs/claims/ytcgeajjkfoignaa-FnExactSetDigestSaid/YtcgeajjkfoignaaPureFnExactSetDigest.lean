import Derived.Test.YtcgeajjkfoignaaBase
import Derived.Test.YtcgeajjkfoignaaSxLawsHelp
import Derived.Test.YtcgeajjkfoignaaSxImplSmall
import Derived.Test.YtcgeajjkfoignaaSxSpecL1
import Derived.Test.YtcgeajjkfoignaaSxLawsHelp
import Derived.Lib.Bytes
import Derived.Test.YtcgeajjkfoignaaSxSpecSmall
import Derived.Test.YtcgeajjkfoignaaSxLawsVal
import Derived.Test.YtcgeajjkfoignaaSxSpecSetFault
import Derived.Test.YtcgeajjkfoignaaSxImplSetFault
import Derived.Test.YtcgeajjkfoignaaSxSpecSmall
import Derived.Test.YtcgeajjkfoignaaSxImplKeyAtY
import Derived.Test.YtcgeajjkfoignaaSxImplSmall
import Derived.Test.YtcgeajjkfoignaaShaI
import Derived.Test.YtcgeajjkfoignaaPStr
import Derived.Test.YtcgeajjkfoignaaSxImplTaggedY
import Derived.Test.YtcgeajjkfoignaaSxImplDigestY
import Derived.Test.YtcgeajjkfoignaaSxSpecTaggedDigest
import Derived.Test.YtcgeajjkfoignaaSxSpecDigest
import Derived.Test.YtcgeajjkfoignaaSxImplPackedY
import Derived.Test.YtcgeajjkfoignaaSxSpecL1P
import Derived.Test.YtcgeajjkfoignaaSxSpecL1N
import Derived.Test.YtcgeajjkfoignaaSxImplSmall
import Derived.Test.YtcgeajjkfoignaaSxLawsHelp
import Derived.Test.YtcgeajjkfoignaaSxLawsHelpR
import Derived.Test.YtcgeajjkfoignaaSx0
import Derived.WalkSpells
import Derived.Laws.Tables
import Derived.Laws.CopyOwn
import Derived.Test.YtcgeajjkfoignaaSxLawsHelp
import Derived.Test.YtcgeajjkfoignaaSxLawsHelpR
import Derived.Test.YtcgeajjkfoignaaSxLawsVal
import Derived.Test.YtcgeajjkfoignaaSxLawsHelpR
import Derived.Test.YtcgeajjkfoignaaSxSpecSetDigest
import Derived.Test.YtcgeajjkfoignaaSxImplSetDigest
import Derived.Test.YtcgeajjkfoignaaSxImplSetDigestY
import Derived.Test.YtcgeajjkfoignaaSxSpecL7DigestY
import Derived.Test.YtcgeajjkfoignaaSxImplSetDigest
import Derived.Test.YtcgeajjkfoignaaSxSpecSetDigest
import Derived.Test.YtcgeajjkfoignaaSxImplPackY
/- What the laws' own helpers on byte slices come to: toByteS copies, eqByteS compares, markByteS and heldByteS count alike. For every slice that fits memory. -/
set_option linter.unusedVariables false
namespace Go.Proofs.Ytcgeajjkfoignaa.S
open Go.RowKit Go.Proofs.YtcgeajjkfoignaaW.PrintWords Go.Proofs.YtcgeajjkfoignaaW.PrintLast Go.Proofs.YtcgeajjkfoignaaW.PrintMore Go.Proofs.Ytcgeajjkfoignaa.Base

theorem toByteS_l0 (l : List Int) (hl : l.length ≤ 281474976710656) : ∀ (d : Nat) (x : List Int) (i : Nat), i + d = l.length → x.length = l.length → (∀ j, j < i → x[j]? = l[j]?) → Ev (fun k => laws_toByteS.l0 k l x (i : Int)) l := by
  intro d
  induction d with
  | zero =>
    intro x i hi hx hj
    refine ev_step (fun k => laws_toByteS.l0.eq_2 _ _ _ _) ?_
    refine ev_neg (by omega) ?_
    rw [fill_all hx (fun j h => hj j (by omega))]
    exact ev_now rfl
  | succ d ih =>
    intro x i hi hx hj
    refine ev_step (fun k => laws_toByteS.l0.eq_2 _ _ _ _) ?_
    refine ev_pos (by omega) ?_
    refine ev_pos (by omega) ?_
    refine ev_pos (by omega) ?_
    rw [w64s (by omega), Int.toNat_natCast]
    exact ih _ (i + 1) (by omega) (by rw [List.length_set]; exact hx) (fill_step (by omega) hx hj)
theorem toByteS_ev (l : List Int) (hl : l.length ≤ 281474976710656) : Ev (fun k => laws_toByteS.f k l) l := by
  unfold laws_toByteS.f
  refine ev_pos (by omega) ?_
  refine ev_pos (by omega) ?_
  exact toByteS_l0 l hl l.length _ 0 (by omega) (by simp) (fun j h => by omega)
theorem eqByteS_l0 (l : List Int) (hl : l.length ≤ 281474976710656) : ∀ (d i : Nat), i + d = l.length → Ev (fun k => laws_eqByteS.l0 k l l (i : Int)) true := by
  intro d
  induction d with
  | zero =>
    intro i hi
    refine ev_step (fun k => laws_eqByteS.l0.eq_2 _ _ _ _) ?_
    refine ev_neg (by omega) ?_
    exact ev_now rfl
  | succ d ih =>
    intro i hi
    refine ev_step (fun k => laws_eqByteS.l0.eq_2 _ _ _ _) ?_
    refine ev_pos (by omega) ?_
    refine ev_pos (by omega) ?_
    refine ev_pos (by omega) ?_
    refine ev_pos rfl ?_
    rw [w64s (by omega)]
    exact ih (i + 1) (by omega)
theorem eqByteS_ev (l : List Int) (hl : l.length ≤ 281474976710656) : Ev (fun k => laws_eqByteS.f k l l) true := by
  unfold laws_eqByteS.f
  refine ev_pos rfl ?_
  exact eqByteS_l0 l hl l.length 0 (by omega)
end Go.Proofs.Ytcgeajjkfoignaa.S

/- Is a number in its bounds: the program's and the reference's answer. -/
set_option linter.unusedVariables false
namespace Go.Proofs.Ytcgeajjkfoignaa.S
open Go.RowKit Go.Proofs.YtcgeajjkfoignaaW.PrintWords Go.Proofs.YtcgeajjkfoignaaW.PrintLast Go.Proofs.YtcgeajjkfoignaaW.PrintMore Go.Proofs.Ytcgeajjkfoignaa.Base

theorem in_eq (a b c : Int) : impl_in.f a b c = some (decide (b ≤ a ∧ a ≤ c)) := by
  unfold impl_in.f
  by_cases h : b ≤ a <;> simp [h]
end Go.Proofs.Ytcgeajjkfoignaa.S

/- Is a number in its bounds: the program's and the reference's answer. -/
set_option linter.unusedVariables false
namespace Go.Proofs.Ytcgeajjkfoignaa.S
open Go.RowKit Go.Proofs.YtcgeajjkfoignaaW.PrintWords Go.Proofs.YtcgeajjkfoignaaW.PrintLast Go.Proofs.YtcgeajjkfoignaaW.PrintMore Go.Proofs.Ytcgeajjkfoignaa.Base

theorem l1In_eq (a b c : Int) : spec_l1In.f a b c = some (decide (b ≤ a ∧ a ≤ c)) := by
  unfold spec_l1In.f
  by_cases h : b ≤ a <;> simp [h]
end Go.Proofs.Ytcgeajjkfoignaa.S

/- How many places are left behind a slice of bytes. -/
set_option linter.unusedVariables false
namespace Go.Proofs.Ytcgeajjkfoignaa.S
open Go.RowKit Go.Proofs.YtcgeajjkfoignaaW.PrintWords Go.Proofs.YtcgeajjkfoignaaW.PrintLast Go.Proofs.YtcgeajjkfoignaaW.PrintMore Go.Proofs.Ytcgeajjkfoignaa.Base

def szV (n : Nat) (a : Int) : Int := if a - n < 0 then -1 else a - n
theorem szByteS_eq (l : List Int) (a : Int) (hl : l.length ≤ 9223372036854775807) (h0 : 0 ≤ a) (h1 : a ≤ 1048576) : laws_szByteS.f l a = some (szV l.length a) := by
  unfold laws_szByteS.f szV
  rw [w64 (by omega) (by omega)]
  split <;> rfl
theorem szV_range {n : Nat} {a : Int} (h : ¬ szV n a < 0) : (n : Int) ≤ a ∧ szV n a = a - n := by
  unfold szV at h ⊢
  split at h
  · omega
  · rename_i g
    rw [if_neg g]
    exact ⟨by omega, rfl⟩
end Go.Proofs.Ytcgeajjkfoignaa.S

/- Loops over a slice in one lemma each: copied element by element, counted, held. Nothing of the program stands in this text. -/
set_option linter.unusedVariables false
namespace Go.Proofs.Ytcgeajjkfoignaa.Base
open Go.RowKit Go.Proofs.YtcgeajjkfoignaaW.PrintWords Go.Proofs.YtcgeajjkfoignaaW.PrintLast Go.Proofs.YtcgeajjkfoignaaW.PrintMore

/-- From place i on to the end. -/
theorem ev_walk {α : Type} {n : Nat} {L : Nat → Int → Option α} {r : α} (hstep : ∀ i : Nat, i < n → Ev (fun k => L k ((i + 1 : Nat) : Int)) r → Ev (fun k => L k (i : Int)) r) (hend : Ev (fun k => L k (n : Int)) r) : ∀ (d i : Nat), i + d = n → Ev (fun k => L k (i : Int)) r := by
  intro d
  induction d with
  | zero => intro i hi; rw [show i = n by omega]; exact hend
  | succ d ih => intro i hi; exact hstep i (by omega) (ih (i + 1) (by omega))
/-- Each element's copy at its place. -/
theorem ev_copy {α β : Type} {l : List α} {g : α → β} {L : Nat → List β → Int → Option (List β)} (hstep : ∀ (i : Nat) (x : List β) (h : i < l.length), x.length = l.length → Ev (fun k => L k (x.set i (g l[i])) ((i + 1 : Nat) : Int)) (l.map g) → Ev (fun k => L k x (i : Int)) (l.map g))
    (hend : ∀ x : List β, Ev (fun k => L k x (l.length : Int)) x) : ∀ (d i : Nat) (x : List β), i + d = l.length → x.length = l.length → (∀ j, j < i → x[j]? = (l.map g)[j]?) → Ev (fun k => L k x (i : Int)) (l.map g) := by
  intro d
  induction d with
  | zero =>
    intro i x hi hx hj
    have e : x = l.map g := fill_all (by simpa using hx) (fun j h => hj j (by simp at h; omega))
    have h := hend x
    rw [show l.length = i by omega] at h
    rw [← e]
    exact h
  | succ d ih =>
    intro i x hi hx hj
    refine hstep i x (by omega) hx (ih (i + 1) _ (by omega) (by simpa using hx) ?_)
    intro j hj'
    rw [List.getElem?_set]
    by_cases e : i = j
    · subst e
      rw [if_pos rfl, if_pos (by omega), List.getElem?_map, List.getElem?_eq_getElem (by omega)]
      rfl
    · rw [if_neg e]
      exact hj j (by omega)
end Go.Proofs.Ytcgeajjkfoignaa.Base

/- Two lists of bytes are one where their texts are one. Nothing of the program stands in this text. -/
set_option linter.unusedVariables false
namespace Go.Proofs.Ytcgeajjkfoignaa.Base
open Go.RowKit Go.Proofs.YtcgeajjkfoignaaW.PrintWords Go.Proofs.YtcgeajjkfoignaaW.PrintLast Go.Proofs.YtcgeajjkfoignaaW.PrintMore

theorem text_iff {a b : List Int} (ha : Byt a) (hb : Byt b) : (strOfNums a).toList = (strOfNums b).toList ↔ a = b := by
  rw [Lib.strOfNums_toList, Lib.strOfNums_toList]
  constructor
  · intro h
    refine strOfNums_inj ha hb ?_
    exact congrArg List.toArray h
  · intro h; rw [h]
theorem text_beq {a b : List Int} (ha : Byt a) (hb : Byt b) : ((strOfNums a).toList == (strOfNums b).toList) = decide (a = b) := by
  rw [Bool.eq_iff_iff, beq_iff_eq, decide_eq_true_iff]
  exact text_iff ha hb
end Go.Proofs.Ytcgeajjkfoignaa.Base

/- What the reference's CompareBytes comes to: the order of the first unlike bytes, else of the lengths. For all slices that fit memory. -/
set_option linter.unusedVariables false
namespace Go.Proofs.Ytcgeajjkfoignaa.S
open Go.RowKit Go.Proofs.YtcgeajjkfoignaaW.PrintWords Go.Proofs.YtcgeajjkfoignaaW.PrintLast Go.Proofs.YtcgeajjkfoignaaW.PrintMore Go.Proofs.Ytcgeajjkfoignaa.Base

def cmpL : List Int → List Int → Int
  | [], [] => 0
  | [], _ :: _ => -1
  | _ :: _, [] => 1
  | x :: a, y :: b => if x < y then -1 else if y < x then 1 else cmpL a b
theorem cmpL_zero : ∀ a b : List Int, cmpL a b = 0 ↔ a = b
  | [], [] => by simp [cmpL]
  | [], _ :: _ => by simp [cmpL]
  | _ :: _, [] => by simp [cmpL]
  | x :: a, y :: b => by
    have ih := cmpL_zero a b
    unfold cmpL
    by_cases h : x < y
    · rw [if_pos h]; simp; intro e; omega
    · rw [if_neg h]
      by_cases h2 : y < x
      · rw [if_pos h2]; simp; intro e; omega
      · rw [if_neg h2, ih]
        have : x = y := by omega
        simp [this]
theorem compareBytes_l0 (a b : List Int) (ha : a.length ≤ 281474976710656) (hb : b.length ≤ 281474976710656) : ∀ (d i : Nat), i + d = a.length → i ≤ b.length → Ev (fun k => spec_CompareBytes.l0 k a b (i : Int)) (cmpL (a.drop i) (b.drop i)) := by
  intro d
  induction d with
  | zero =>
    intro i hi hj
    rw [List.drop_of_length_le (l := a) (by omega)]
    refine ev_step (fun k => spec_CompareBytes.l0.eq_2 _ _ _ _) (ev_neg (by omega) ?_)
    refine ev_step (fun k => spec_CompareBytes.j1.eq_2 _ _ _ _ _) (ev_neg (by simp) ?_)
    by_cases h : (a.length : Int) < (b.length : Int)
    · refine ev_pos h ?_
      rw [List.drop_eq_getElem_cons (l := b) (i := i) (by omega)]
      exact ev_now rfl
    · refine ev_neg h (ev_neg (by omega) ?_)
      rw [List.drop_of_length_le (l := b) (by omega)]
      exact ev_now rfl
  | succ d ih =>
    intro i hi hj
    refine ev_step (fun k => spec_CompareBytes.l0.eq_2 _ _ _ _) (ev_pos (by omega) ?_)
    refine ev_step (fun k => spec_CompareBytes.j1.eq_2 _ _ _ _ _) ?_
    rw [List.drop_eq_getElem_cons (l := a) (i := i) (by omega)]
    by_cases h : (i : Int) < (b.length : Int)
    · refine ev_pos (by simpa using h) (ev_pos (by omega) (ev_pos (by omega) (ev_pos h ?_)))
      rw [List.drop_eq_getElem_cons (l := b) (i := i) (by omega), rd_nat a i (by omega), rd_nat b i (by omega)]
      unfold cmpL
      by_cases h1 : a[i] < b[i]
      · rw [if_pos h1]; exact ev_pos h1 (ev_now rfl)
      · rw [if_neg h1]
        refine ev_neg h1 ?_
        by_cases h2 : b[i] < a[i]
        · rw [if_pos h2]; exact ev_pos h2 (ev_now rfl)
        · rw [if_neg h2]
          refine ev_neg h2 ?_
          rw [w64s (by omega)]
          exact ih (i + 1) (by omega) (by omega)
    · refine ev_neg (by simpa using h) ?_
      rw [List.drop_of_length_le (l := b) (by omega)]
      exact ev_neg (by omega) (ev_pos (by omega) (ev_now rfl))
theorem compareBytes_ev (a b : List Int) (ha : a.length ≤ 281474976710656) (hb : b.length ≤ 281474976710656) : Ev (fun k => spec_CompareBytes.f k a b) (cmpL a b) :=
  compareBytes_l0 a b ha hb a.length 0 (by omega) (by omega)
end Go.Proofs.Ytcgeajjkfoignaa.S

/- Validators: what the laws' helpers on a list of them, the program's SetFault and the reference's come to. For all lists that fit. -/
set_option linter.unusedVariables false
namespace Go.Proofs.Ytcgeajjkfoignaa.S
open Go.RowKit Go.Proofs.YtcgeajjkfoignaaW.PrintWords Go.Proofs.YtcgeajjkfoignaaW.PrintLast Go.Proofs.YtcgeajjkfoignaaW.PrintMore Go.Proofs.Ytcgeajjkfoignaa.Base

def toV (y : S76) : S79 := ⟨y.f0, y.f1⟩
theorem rdVA (l : List S76) (i : Nat) (h : i < l.length) : rd_T76 l (i : Int) = l[i] := by
  unfold rd_T76
  simp [List.getD_eq_getElem?_getD, List.getElem?_eq_getElem h]
theorem rdVB (l : List S79) (i : Nat) (h : i < l.length) : rd_T79 l (i : Int) = l[i] := by
  unfold rd_T79
  simp [List.getD_eq_getElem?_getD, List.getElem?_eq_getElem h]
theorem szValidatorS_l0 (l : List S76) (hl : l.length ≤ 1048576) (hq : ∀ y ∈ l, y.f0.length ≤ 9223372036854775807) : ∀ (d i : Nat) (a : Int), i + d = l.length → 0 ≤ a → a ≤ 1048576 → ∃ r, Ev (fun k => laws_szValidatorS.l0 k l a (i : Int)) r ∧ (¬ r < 0 → ∀ y ∈ l.drop i, y.f0.length ≤ 1048576) := by
  intro d
  induction d with
  | zero =>
    intro i a hi h0 h1
    rw [List.drop_of_length_le (by omega)]
    exact ⟨a, ev_step (fun k => laws_szValidatorS.l0.eq_2 _ _ _ _) (ev_neg (by omega) (ev_now rfl)), fun _ y hy => by cases hy⟩
  | succ d ih =>
    intro i a hi h0 h1
    have hq' := hq l[i] (List.getElem_mem _)
    have hr := szByteS_eq l[i].f0 a hq' h0 h1
    by_cases c : szV l[i].f0.length a < 0
    · refine ⟨-1, ev_step (fun k => laws_szValidatorS.l0.eq_2 _ _ _ _) (ev_pos (by omega) (ev_pos (by omega) ?_)), fun h => absurd (by omega) h⟩
      rw [rdVA l i (by omega)]
      unfold laws_szValidator.f
      rw [hr, Option.bind_some, if_pos c]
      exact ev_bind (ev_now rfl) (ev_pos (by omega) (ev_now rfl))
    · obtain ⟨g1, g2⟩ := szV_range c
      obtain ⟨q, h2, h3⟩ := ih (i + 1) (szV l[i].f0.length a) (by omega) (by omega) (by omega)
      refine ⟨q, ev_step (fun k => laws_szValidatorS.l0.eq_2 _ _ _ _) (ev_pos (by omega) (ev_pos (by omega) ?_)), fun h y hy => ?_⟩
      · rw [rdVA l i (by omega)]
        unfold laws_szValidator.f
        rw [hr, Option.bind_some, if_neg c]
        refine ev_bind (ev_now rfl) (ev_neg c ?_)
        rw [w64s (by omega)]
        exact h2
      · rw [List.drop_eq_getElem_cons (by omega)] at hy
        rcases List.mem_cons.1 hy with rfl | hy
        · omega
        · exact h3 h y hy
theorem szValidatorS_ex (l : List S76) (hl : l.length ≤ 9223372036854775807) (hq : ∀ y ∈ l, y.f0.length ≤ 9223372036854775807) : ∃ r, Ev (fun k => laws_szValidatorS.f k l 1048576) r ∧ (¬ r < 0 → l.length ≤ 1048576 ∧ ∀ y ∈ l, y.f0.length ≤ 1048576) := by
  unfold laws_szValidatorS.f
  rw [w64 (n := 1048576 - (l.length : Int)) (by omega) (by omega)]
  by_cases c : 1048576 - (l.length : Int) < 0
  · exact ⟨-1, ev_pos c (ev_now rfl), fun h => absurd (by omega) h⟩
  · obtain ⟨r, h1, h2⟩ := szValidatorS_l0 l (by omega) hq l.length 0 (1048576 - (l.length : Int)) (by omega) (by omega) (by omega)
    exact ⟨r, ev_neg c h1, fun h => ⟨by omega, h2 h⟩⟩
theorem toValidatorS_ev (l : List S76) (hl : l.length ≤ 1048576) (hf : ∀ y ∈ l, y.f0.length ≤ 1048576) : Ev (fun k => laws_toValidatorS.f k l) (l.map toV) := by
  unfold laws_toValidatorS.f
  refine ev_pos (by omega) (ev_pos (by omega) ?_)
  refine ev_copy (g := toV) (L := fun k x i => laws_toValidatorS.l0 k l x i) ?_ ?_ l.length 0 _ (by omega) (by simp) (fun j h => by omega)
  · intro i x hi hx h
    have hq := hf l[i] (List.getElem_mem _)
    refine ev_step (fun k => laws_toValidatorS.l0.eq_2 _ _ _ _) (ev_pos (by omega) (ev_pos (by omega) ?_))
    rw [rdVA l i hi]
    refine ev_bind (a := (l[i].f0, l[i].f1)) (ev_bind (toByteS_ev _ (by omega)) (ev_now rfl)) (ev_pos (by omega) ?_)
    rw [w64s (by omega), Int.toNat_natCast]
    exact h
  · intro x
    exact ev_step (fun k => laws_toValidatorS.l0.eq_2 _ _ _ _) (ev_neg (by omega) (ev_now rfl))
theorem eqValidatorS_ev (l : List S79) (hl : l.length ≤ 1048576) (hf : ∀ y ∈ l, y.f0.length ≤ 1048576) : Ev (fun k => laws_eqValidatorS.f k l l) true := by
  unfold laws_eqValidatorS.f
  refine ev_pos rfl (ev_walk (n := l.length) (L := fun k i => laws_eqValidatorS.l0 k l l i) ?_ ?_ l.length 0 (by omega))
  · intro i hi h
    have hq := hf l[i] (List.getElem_mem _)
    refine ev_step (fun k => laws_eqValidatorS.l0.eq_2 _ _ _ _) (ev_pos (by omega) (ev_pos (by omega) (ev_pos (by omega) ?_)))
    rw [rdVB l i hi]
    refine ev_bind (a := true) ?_ (ev_pos rfl ?_)
    · unfold laws_eqValidator.f
      exact ev_bind (eqByteS_ev _ (by omega)) (ev_pos rfl (ev_pos rfl (ev_now rfl)))
    · rw [w64s (by omega)]
      exact h
  · exact ev_step (fun k => laws_eqValidatorS.l0.eq_2 _ _ _ _) (ev_neg (by omega) (ev_now rfl))
theorem spec_sameBytes_ev (a b : List Int) (ha : a.length ≤ 281474976710656) (hb : b.length ≤ 281474976710656) : Ev (fun k => spec_SameBytes.f k a b) (decide (a = b)) := by
  unfold spec_SameBytes.f
  refine ev_bind (compareBytes_ev a b ha hb) (ev_now ?_)
  congr 1
  rw [Bool.eq_iff_iff, beq_iff_eq, decide_eq_true_iff]
  exact cmpL_zero a b
/-- A key is found where it is. -/
theorem keyAt_iff (key : List Int) (hk : Byt key) : ∀ (l : List S79) (i : Int), 0 ≤ i → (∀ v ∈ l, Byt v.f0) → (impl_keyAt.at_ key l i ≥ 0 ↔ ∃ v ∈ l, v.f0 = key)
  | [], i, _, _ => by simp [impl_keyAt.at_]
  | v :: l, i, h, hb => by
    have ih := keyAt_iff key hk l (i + 1) (by omega) (fun u hu => hb u (List.mem_cons_of_mem _ hu))
    unfold impl_keyAt.at_
    rw [text_beq (hb v List.mem_cons_self) hk]
    by_cases c : v.f0 = key
    · rw [if_pos (decide_eq_true c)]
      exact ⟨fun _ => ⟨v, List.mem_cons_self, c⟩, fun _ => h⟩
    · rw [if_neg (by simpa using c), ih]
      constructor
      · rintro ⟨u, hu, e⟩
        exact ⟨u, List.mem_cons_of_mem _ hu, e⟩
      · rintro ⟨u, hu, e⟩
        rcases List.mem_cons.1 hu with rfl | hu
        · exact absurd e c
        · exact ⟨u, hu, e⟩
theorem setFault_l1 (l : List S79) (hl : l.length ≤ 5) (hf : ∀ v ∈ l, v.f0.length ≤ 1048576) (i : Nat) (hi : i < l.length) (r : Int) (hr : Ev (fun k => spec_SetFault.l0 k l ((i + 1 : Nat) : Int)) r) :
    ∀ (d j : Nat), j + d = i → (∀ v ∈ l.take j, v.f0 ≠ l[i].f0) → ∃ b : Bool, (b = true ↔ ∃ v ∈ l.take i, v.f0 = l[i].f0) ∧ Ev (fun k => spec_SetFault.l1 k l (i : Int) (j : Int)) (if b = true then 7 else r) := by
  intro d
  induction d with
  | zero =>
    intro j hj hn
    rw [show j = i by omega] at hn ⊢
    refine ⟨false, ⟨fun h => (by cases h), fun ⟨v, hv, e⟩ => absurd e (hn v hv)⟩, ?_⟩
    refine ev_step (fun k => spec_SetFault.l1.eq_2 _ _ _ _) (ev_neg (by omega) ?_)
    rw [w64s (by omega)]
    exact hr
  | succ d ih =>
    intro j hj hn
    have e := spec_sameBytes_ev l[j].f0 l[i].f0 (by have := hf l[j] (List.getElem_mem _); omega) (by have := hf l[i] (List.getElem_mem _); omega)
    by_cases c : l[j].f0 = l[i].f0
    · refine ⟨true, ⟨fun _ => ⟨l[j], ?_, c⟩, fun _ => rfl⟩, ?_⟩
      · rw [List.mem_take_iff_getElem]
        exact ⟨j, by omega, rfl⟩
      · refine ev_step (fun k => spec_SetFault.l1.eq_2 _ _ _ _) (ev_pos (by omega) (ev_pos (by omega) (ev_pos (by omega) (ev_pos (by omega) (ev_pos (by omega) ?_)))))
        rw [rdVB l i hi, rdVB l j (by omega)]
        exact ev_bind e (ev_pos (decide_eq_true c) (ev_now rfl))
    · obtain ⟨b, h1, h2⟩ := ih (j + 1) (by omega) (fun v hv => by
        rw [List.take_succ_eq_append_getElem (by omega)] at hv
        rcases List.mem_append.1 hv with hv | hv
        · exact hn v hv
        · rw [List.mem_singleton.1 hv]; exact c)
      refine ⟨b, h1, ev_step (fun k => spec_SetFault.l1.eq_2 _ _ _ _) (ev_pos (by omega) (ev_pos (by omega) (ev_pos (by omega) (ev_pos (by omega) (ev_pos (by omega) ?_)))))⟩
      rw [rdVB l i hi, rdVB l j (by omega), w64s (by omega)]
      exact ev_bind e (ev_neg (by simpa using c) h2)
theorem setFault_l0 (l : List S79) (hl : l.length ≤ 5) (hf : ∀ v ∈ l, v.f0.length ≤ 1048576 ∧ Byt v.f0) : ∀ (d i : Nat), i + d = l.length → (∀ v ∈ l.take i, 1 ≤ v.f1 ∧ v.f1 ≤ 1000 ∧ v.f0.length = 32) → ∃ r, (r = 0 → ∀ v ∈ l, 1 ≤ v.f1 ∧ v.f1 ≤ 1000 ∧ v.f0.length = 32) ∧ Ev (fun k => spec_SetFault.l0 k l (i : Int)) r ∧ Ev (fun k => impl_SetFault.l0 k l l (l.length : Int) (i : Int)) r := by
  intro d
  induction d with
  | zero =>
    intro i hi hp
    rw [List.take_of_length_le (by omega)] at hp
    exact ⟨0, fun _ => hp, ev_step (fun k => spec_SetFault.l0.eq_2 _ _ _) (ev_neg (by omega) (ev_now rfl)), ev_step (fun k => impl_SetFault.l0.eq_2 _ _ _ _ _) (ev_neg (by omega) (ev_now rfl))⟩
  | succ d ih =>
    intro i hi hp
    have hd : impl_isDigest.f l[i].f0 = some (decide (l[i].f0.length = 32)) := by
      unfold impl_isDigest.f
      congr 1
      rw [Bool.eq_iff_iff, beq_iff_eq, decide_eq_true_iff]
      omega
    by_cases c : l[i].f0.length = 32
    · by_cases p : 1 ≤ l[i].f1 ∧ l[i].f1 ≤ 1000
      · obtain ⟨r, g0, g1, g2⟩ := ih (i + 1) (by omega) (fun v hv => by
          rw [List.take_succ_eq_append_getElem (by omega)] at hv
          rcases List.mem_append.1 hv with hv | hv
          · exact hp v hv
          · rw [List.mem_singleton.1 hv]; exact ⟨p.1, p.2, c⟩)
        obtain ⟨b, h1, h2⟩ := setFault_l1 l hl (fun v hv => (hf v hv).1) i (by omega) r g1 i 0 (by omega) (fun v hv => by simp at hv)
        have hk := keyAt_iff l[i].f0 (hf l[i] (List.getElem_mem _)).2 (l.take i) 0 (by omega) (fun v hv => (hf v (List.mem_of_mem_take hv)).2)
        have hkf : impl_keyAt.f (l.take i) l[i].f0 = some (impl_keyAt.at_ l[i].f0 (l.take i) 0) := rfl
        refine ⟨if b = true then 7 else r, fun h => g0 (by revert h; split <;> intro h <;> first | exact h | (exact absurd h (by decide))), ?_, ?_⟩
        · refine ev_step (fun k => spec_SetFault.l0.eq_2 _ _ _) (ev_pos (by omega) (ev_pos (by omega) ?_))
          rw [rdVB l i (by omega)]
          exact ev_pos (by omega) (ev_bind (ev_now (l1In_eq _ _ _)) (ev_pos (decide_eq_true p) h2))
        · refine ev_step (fun k => impl_SetFault.l0.eq_2 _ _ _ _ _) (ev_pos (by omega) (ev_pos (by omega) (ev_pos (by omega) ?_)))
          rw [rdVB l i (by omega), Int.toNat_natCast]
          refine ev_bind (ev_now hd) (ev_pos (decide_eq_true c) (ev_bind (ev_now (in_eq _ _ _)) (ev_pos (decide_eq_true p) (ev_pos (by omega) (ev_bind (ev_now hkf) ?_)))))
          cases b with
          | true => exact ev_pos (hk.2 (h1.1 rfl)) (ev_now rfl)
          | false =>
            refine ev_neg (fun h => by have := h1.2 (hk.1 h); cases this) ?_
            rw [w64s (by omega)]
            exact g2
      · refine ⟨3, fun h => absurd h (by decide), ?_, ?_⟩
        · refine ev_step (fun k => spec_SetFault.l0.eq_2 _ _ _) (ev_pos (by omega) (ev_pos (by omega) ?_))
          rw [rdVB l i (by omega)]
          exact ev_pos (by omega) (ev_bind (ev_now (l1In_eq _ _ _)) (ev_neg (by simpa using p) (ev_now rfl)))
        · refine ev_step (fun k => impl_SetFault.l0.eq_2 _ _ _ _ _) (ev_pos (by omega) (ev_pos (by omega) (ev_pos (by omega) ?_)))
          rw [rdVB l i (by omega)]
          exact ev_bind (ev_now hd) (ev_pos (decide_eq_true c) (ev_bind (ev_now (in_eq _ _ _)) (ev_neg (by simpa using p) (ev_now rfl))))
    · refine ⟨1, fun h => absurd h (by decide), ?_, ?_⟩
      · refine ev_step (fun k => spec_SetFault.l0.eq_2 _ _ _) (ev_pos (by omega) (ev_pos (by omega) ?_))
        rw [rdVB l i (by omega)]
        exact ev_neg (by omega) (ev_now rfl)
      · refine ev_step (fun k => impl_SetFault.l0.eq_2 _ _ _ _ _) (ev_pos (by omega) (ev_pos (by omega) (ev_pos (by omega) ?_)))
        rw [rdVB l i (by omega)]
        exact ev_bind (ev_now hd) (ev_neg (by simpa using c) (ev_now rfl))
theorem setFault_ev (l : List S79) (hf : ∀ v ∈ l, v.f0.length ≤ 1048576 ∧ Byt v.f0) : ∃ r, (r = 0 → l.length ≤ 5 ∧ ∀ v ∈ l, 1 ≤ v.f1 ∧ v.f1 ≤ 1000 ∧ v.f0.length = 32) ∧ Ev (fun k => spec_SetFault.f k l) r ∧ Ev (fun k => impl_SetFault.f k l) r := by
  unfold spec_SetFault.f impl_SetFault.f
  by_cases c0 : (l.length : Int) = 0
  · exact ⟨4, fun h => absurd h (by decide), ev_pos c0 (ev_now rfl), ev_pos c0 (ev_now rfl)⟩
  · by_cases c1 : (l.length : Int) > 5
    · exact ⟨2, fun h => absurd h (by decide), ev_neg c0 (ev_pos c1 (ev_now rfl)), ev_neg c0 (ev_pos c1 (ev_now rfl))⟩
    · obtain ⟨r, a, b, c⟩ := setFault_l0 l (by omega) hf l.length 0 (by omega) (fun v hv => by simp at hv)
      exact ⟨r, fun h => ⟨by omega, a h⟩, ev_neg c0 (ev_neg c1 b), ev_neg c0 (ev_neg c1 c)⟩
end Go.Proofs.Ytcgeajjkfoignaa.S

/- The digest and the tagged digest, as plain functions: what the program's and the reference's come to. For all bytes that fit. -/
set_option linter.unusedVariables false
namespace Go.Proofs.Ytcgeajjkfoignaa.S
open Go.RowKit Go.Proofs.YtcgeajjkfoignaaW.PrintWords Go.Proofs.YtcgeajjkfoignaaW.PrintLast Go.Proofs.YtcgeajjkfoignaaW.PrintMore Go.Proofs.Ytcgeajjkfoignaa.Base Go.Proofs.Ytcgeajjkfoignaa.Sha

theorem impl_dig {ls : List (List Int)} (hl : Byt ls.flatten) (hn : ls.flatten.length < 70000000000000) : impl_digest.f ls = some (sha ls.flatten) := by
  unfold impl_digest.f
  refine if_pos ?_
  unfold impl_digest.ok
  rw [Bool.and_eq_true]
  exact ⟨List.all_eq_true.2 (fun x hx => decide_eq_true (hl x hx)), decide_eq_true hn⟩
/-- The tagged digest. -/
def tg (t : ByteArray) (l : List Int) : List Int := sha ([(t.size : Int) % 256] ++ bytesOf t ++ l)
theorem tg_length (t : ByteArray) (l : List Int) : (tg t l).length = 32 := sha_length _
theorem tg_byt (t : ByteArray) (l : List Int) : Byt (tg t l) := sha_byt _
theorem tg_byt0 {t : ByteArray} {l : List Int} (hl : Byt l) : Byt ([(t.size : Int) % 256] ++ bytesOf t ++ l) :=
  byt_append (byt_append (byt_one (by omega) (by omega)) (bytesOf_byt t)) hl
theorem impl_tag {t : ByteArray} {ls : List (List Int)} (hl : Byt ls.flatten) (hn : t.size + ls.flatten.length < 60000000000000) (hc : ls.length < 5000000000000) : impl_tagged.f t ls = some (tg t ls.flatten) := by
  unfold impl_tagged.f
  rw [if_pos (by omega)]
  have e : ([[(t.size : Int) % 256], bytesOf t] ++ ls).flatten = [(t.size : Int) % 256] ++ bytesOf t ++ ls.flatten := by simp
  rw [impl_dig (by rw [e]; exact tg_byt0 hl) (by rw [e, List.length_append, List.length_append, bytesOf_length, List.length_singleton]; omega), e]
  rfl
theorem impl_tag1 {t : ByteArray} {l : List Int} (hl : Byt l) (hn : t.size + l.length < 60000000000000) : impl_tagged.f t [l] = some (tg t l) := by
  have e : [l].flatten = l := by simp
  have h := impl_tag (t := t) (ls := [l]) (by rw [e]; exact hl) (by rw [e]; exact hn) (by simp)
  rw [e] at h
  exact h
theorem impl_tag2 {t : ByteArray} {l m : List Int} (hl : Byt l) (hm : Byt m) (hn : t.size + l.length + m.length < 60000000000000) : impl_tagged.f t [l, m] = some (tg t (l ++ m)) := by
  have e : [l, m].flatten = l ++ m := by simp
  have h := impl_tag (t := t) (ls := [l, m]) (by rw [e]; exact byt_append hl hm) (by rw [e, List.length_append]; omega) (by simp)
  rw [e] at h
  exact h
end Go.Proofs.Ytcgeajjkfoignaa.S

/- The digest and the tagged digest, as plain functions: what the program's and the reference's come to. For all bytes that fit. -/
set_option linter.unusedVariables false
namespace Go.Proofs.Ytcgeajjkfoignaa.S
open Go.RowKit Go.Proofs.YtcgeajjkfoignaaW.PrintWords Go.Proofs.YtcgeajjkfoignaaW.PrintLast Go.Proofs.YtcgeajjkfoignaaW.PrintMore Go.Proofs.Ytcgeajjkfoignaa.Base Go.Proofs.Ytcgeajjkfoignaa.Sha

theorem spec_dig {l : List Int} (hl : Byt l) (hn : l.length < 70000000000000) : spec_Digest.f l = some (sha l) := by
  unfold spec_Digest.f
  refine if_pos ?_
  unfold spec_Digest.ok
  rw [Bool.and_eq_true]
  exact ⟨List.all_eq_true.2 (fun x hx => decide_eq_true (hl x hx)), decide_eq_true hn⟩
theorem spec_tag {t : ByteArray} {l : List Int} (hl : Byt l) (hn : t.size + l.length < 60000000000000) : spec_TaggedDigest.f t l = some (tg t l) := by
  unfold spec_TaggedDigest.f
  refine spec_dig (tg_byt0 hl) ?_
  rw [List.length_append, List.length_append, bytesOf_length, List.length_singleton]
  omega
end Go.Proofs.Ytcgeajjkfoignaa.S

/- Words behind one another, each with its length ahead: what the program's packed and the reference's l1Pack come to. -/
set_option linter.unusedVariables false
namespace Go.Proofs.Ytcgeajjkfoignaa.S
open Go.RowKit Go.Proofs.YtcgeajjkfoignaaW.PrintWords Go.Proofs.YtcgeajjkfoignaaW.PrintLast Go.Proofs.YtcgeajjkfoignaaW.PrintMore Go.Proofs.Ytcgeajjkfoignaa.Base

/-- Words behind one another, each with its length ahead. -/
def packL : List (List Int) → List Int
  | [] => []
  | w :: ws => (((w.length : Int) % 256) :: w) ++ packL ws
theorem packL_cons_length (w : List Int) (ws : List (List Int)) : (packL (w :: ws)).length = 1 + w.length + (packL ws).length := by
  simp [packL]
  omega
theorem rdW (l : List (List Int)) (i : Nat) (h : i < l.length) : rd_L1 l (i : Int) = l[i] := by
  unfold rd_L1
  simp [List.getD_eq_getElem?_getD, List.getElem?_eq_getElem h]
/-- The words that are packed, and whether they are few and short. -/
def packedV (ws : List (List Int)) : List Int × Bool := if ws.length > 60 then ([], false) else if (∀ w ∈ ws, w.length ≤ 200) ∧ (packL ws).length ≤ 4000 then (packL ws, true) else ([], false)
theorem packed_l0 (ws : List (List Int)) (hw : ws.length ≤ 60) (hs : ∀ w ∈ ws, w.length ≤ 9223372036854771000) : ∀ (d i : Nat) (y : List Int), i + d = ws.length → y.length ≤ 4000 → Ev (fun k => impl_packed.l0 k y ws (ws.length : Int) (i : Int)) (if (∀ w ∈ ws.drop i, w.length ≤ 200) ∧ y.length + (packL (ws.drop i)).length ≤ 4000 then (y ++ packL (ws.drop i), true) else ([], false)) := by
  intro d
  induction d with
  | zero =>
    intro i y hi hl
    rw [List.drop_of_length_le (by omega)]
    rw [if_pos ⟨fun w hw => (by cases hw), (by simpa [packL] using hl)⟩]
    exact ev_step (fun k => impl_packed.l0.eq_2 _ _ _ _ _) (ev_neg (by omega) (ev_now (by simp [packL])))
  | succ d ih =>
    intro i y hi hl
    rw [List.drop_eq_getElem_cons (by omega)]
    have hsi := hs ws[i] (List.getElem_mem _)
    refine ev_step (fun k => impl_packed.l0.eq_2 _ _ _ _ _) (ev_pos (by omega) (ev_pos (by omega) (ev_pos (by omega) ?_)))
    rw [rdW ws i (by omega), packL_cons_length]
    by_cases c : ws[i].length > 200
    · rw [if_neg (fun h => by have := h.1 ws[i] List.mem_cons_self; omega)]
      exact ev_pos (by omega) (ev_now rfl)
    · refine ev_neg (by omega) ?_
      rw [w64 (n := (y.length : Int) + 1) (by omega) (by omega), w64 (n := (y.length : Int) + 1 + (ws[i].length : Int)) (by omega) (by omega)]
      by_cases e : (y.length : Int) + 1 + (ws[i].length : Int) > 4000
      · rw [if_neg (fun h => by omega)]
        exact ev_pos e (ev_now rfl)
      · refine ev_neg e (ev_pos (by omega) (ev_bind (ev_now rfl) (ev_pos (by simp; omega) ?_)))
        rw [w64s (by omega)]
        refine ev_eq (ih (i + 1) _ (by omega) (by simp; omega)) ?_
        have hq : ((∀ w ∈ ws[i] :: ws.drop (i + 1), w.length ≤ 200) ∧ y.length + (1 + ws[i].length + (packL (ws.drop (i + 1))).length) ≤ 4000) ↔ ((∀ w ∈ ws.drop (i + 1), w.length ≤ 200) ∧ (y ++ [(ws[i].length : Int) % 256] ++ ws[i]).length + (packL (ws.drop (i + 1))).length ≤ 4000) := by
          have hlen : (y ++ [(ws[i].length : Int) % 256] ++ ws[i]).length = y.length + 1 + ws[i].length := by simp; omega
          rw [hlen]
          constructor
          · rintro ⟨h1, h2⟩
            exact ⟨fun w hw => h1 w (List.mem_cons_of_mem _ hw), by omega⟩
          · rintro ⟨h1, h2⟩
            refine ⟨fun w hw => ?_, by omega⟩
            rcases List.mem_cons.1 hw with rfl | hw
            · omega
            · exact h1 w hw
        by_cases g : (∀ w ∈ ws[i] :: ws.drop (i + 1), w.length ≤ 200) ∧ y.length + (1 + ws[i].length + (packL (ws.drop (i + 1))).length) ≤ 4000
        · rw [if_pos g, if_pos (hq.1 g)]
          simp [packL]
        · rw [if_neg g, if_neg (fun h => g (hq.2 h))]
theorem packed_ev (ws : List (List Int)) (hs : ∀ w ∈ ws, w.length ≤ 9223372036854771000) : Ev (fun k => impl_packed.f k ws) (packedV ws) := by
  unfold impl_packed.f packedV
  by_cases c : ws.length > 60
  · rw [if_pos c]; exact ev_pos (by omega) (ev_now rfl)
  · rw [if_neg c]
    have h := packed_l0 ws (by omega) hs ws.length 0 [] (by omega) (by simp)
    simp only [List.drop_zero, List.length_nil, Nat.zero_add, List.nil_append] at h
    exact ev_neg (by omega) h
theorem packL_len : ∀ {ws : List (List Int)} {m : Nat}, (∀ w ∈ ws, w.length ≤ m) → (packL ws).length ≤ ws.length * (m + 1)
  | [], m, _ => by simp [packL]
  | w :: ws, m, h => by
    rw [packL_cons_length, List.length_cons, Nat.succ_mul]
    have h1 := h w List.mem_cons_self
    have h2 := packL_len (ws := ws) (m := m) (fun v hv => h v (List.mem_cons_of_mem _ hv))
    omega
theorem packLB_byt : ∀ (ws : List (List Int)), (∀ w ∈ ws, Byt w) → Byt (packL ws) := by
  intro ws
  induction ws with
  | nil => intro _; exact byt_nil
  | cons w ws ih =>
    intro h
    show Byt ((((w.length : Int) % 256) :: w) ++ packL ws)
    exact byt_append (byt_append (byt_one (x := (w.length : Int) % 256) (by omega) (by omega)) (h w List.mem_cons_self)) (ih (fun v hv => h v (List.mem_cons_of_mem _ hv)))
end Go.Proofs.Ytcgeajjkfoignaa.S

/- Words behind one another, each with its length ahead: what the program's packed and the reference's l1Pack come to. -/
set_option linter.unusedVariables false
namespace Go.Proofs.Ytcgeajjkfoignaa.S
open Go.RowKit Go.Proofs.YtcgeajjkfoignaaW.PrintWords Go.Proofs.YtcgeajjkfoignaaW.PrintLast Go.Proofs.YtcgeajjkfoignaaW.PrintMore Go.Proofs.Ytcgeajjkfoignaa.Base

theorem l1Pack_l0 (ws : List (List Int)) (hw : ws.length ≤ 1048576) : ∀ (d i : Nat) (y : List Int), i + d = ws.length → y.length + (packL (ws.drop i)).length < 140737488355328 → Ev (fun k => spec_l1Pack.l0 k ws y (i : Int)) (y ++ packL (ws.drop i)) := by
  intro d
  induction d with
  | zero =>
    intro i y hi hl
    rw [List.drop_of_length_le (by omega)]
    exact ev_step (fun k => spec_l1Pack.l0.eq_2 _ _ _ _) (ev_neg (by omega) (ev_now (by simp [packL])))
  | succ d ih =>
    intro i y hi hl
    rw [List.drop_eq_getElem_cons (by omega)] at hl ⊢
    rw [packL_cons_length] at hl
    refine ev_step (fun k => spec_l1Pack.l0.eq_2 _ _ _ _) (ev_pos (by omega) (ev_pos (by omega) (ev_pos (by omega) ?_)))
    rw [rdW ws i (by omega)]
    refine ev_bind (ev_now rfl) (ev_pos (by simp; omega) ?_)
    rw [w64s (by omega)]
    refine ev_eq (ih (i + 1) _ (by omega) (by simp; omega)) ?_
    simp [packL]
theorem l1Pack_ev (ws : List (List Int)) (hw : ws.length ≤ 1048576) (hl : (packL ws).length < 140737488355328) : Ev (fun k => spec_l1Pack.f k ws) (packL ws) := by
  have h := l1Pack_l0 ws hw ws.length 0 [] (by omega) (by simpa using hl)
  unfold spec_l1Pack.f
  simpa using h
end Go.Proofs.Ytcgeajjkfoignaa.S

/- A number as seven bytes: the program's number and the reference's l1Put come to the same bytes. For every number. -/
set_option linter.unusedVariables false
namespace Go.Proofs.Ytcgeajjkfoignaa.S
open Go.RowKit Go.Proofs.YtcgeajjkfoignaaW.PrintWords Go.Proofs.YtcgeajjkfoignaaW.PrintLast Go.Proofs.YtcgeajjkfoignaaW.PrintMore Go.Proofs.Ytcgeajjkfoignaa.Base

/-- The seven bytes of a number, the highest first. -/
def num7 (n : Int) : List Int := [n / 281474976710656 % 256, n / 1099511627776 % 256, n / 4294967296 % 256, n / 16777216 % 256, n / 65536 % 256, n / 256 % 256, n % 256]
theorem num7_byt (n : Int) : Byt (num7 n) := by
  intro x hx
  simp only [num7, List.mem_cons, List.not_mem_nil, or_false] at hx
  rcases hx with rfl | rfl | rfl | rfl | rfl | rfl | rfl <;> omega
theorem num7_length (n : Int) : (num7 n).length = 7 := rfl
theorem l1Put_ev (n : Int) : Ev (fun k => spec_l1Put.f k n) (num7 n) := by
  unfold spec_l1Put.f
  refine ev_step (fun k => spec_l1Put.l0.eq_2 _ _ _ _) (ev_pos (by decide +kernel) (ev_pos (by decide +kernel) (ev_pos (by simp) ?_)))
  rw [show wrap64 (6 - 1) = 5 from by decide +kernel]
  refine ev_step (fun k => spec_l1Put.l0.eq_2 _ _ _ _) (ev_pos (by decide +kernel) (ev_pos (by decide +kernel) (ev_pos (by simp) ?_)))
  rw [show wrap64 (5 - 1) = 4 from by decide +kernel]
  refine ev_step (fun k => spec_l1Put.l0.eq_2 _ _ _ _) (ev_pos (by decide +kernel) (ev_pos (by decide +kernel) (ev_pos (by simp) ?_)))
  rw [show wrap64 (4 - 1) = 3 from by decide +kernel]
  refine ev_step (fun k => spec_l1Put.l0.eq_2 _ _ _ _) (ev_pos (by decide +kernel) (ev_pos (by decide +kernel) (ev_pos (by simp) ?_)))
  rw [show wrap64 (3 - 1) = 2 from by decide +kernel]
  refine ev_step (fun k => spec_l1Put.l0.eq_2 _ _ _ _) (ev_pos (by decide +kernel) (ev_pos (by decide +kernel) (ev_pos (by simp) ?_)))
  rw [show wrap64 (2 - 1) = 1 from by decide +kernel]
  refine ev_step (fun k => spec_l1Put.l0.eq_2 _ _ _ _) (ev_pos (by decide +kernel) (ev_pos (by decide +kernel) (ev_pos (by simp) ?_)))
  rw [show wrap64 (1 - 1) = 0 from by decide +kernel]
  refine ev_step (fun k => spec_l1Put.l0.eq_2 _ _ _ _) (ev_pos (by decide +kernel) (ev_pos (by decide +kernel) (ev_pos (by simp) ?_)))
  rw [show wrap64 (0 - 1) = -1 from by decide +kernel]
  refine ev_step (fun k => spec_l1Put.l0.eq_2 _ _ _ _) (ev_neg (by decide +kernel) (ev_now ?_))
  rw [show IntKind.u64.wrap (wrap64 (8 * 6)) = 48 from by decide +kernel, show IntKind.u64.wrap (wrap64 (8 * 5)) = 40 from by decide +kernel, show IntKind.u64.wrap (wrap64 (8 * 4)) = 32 from by decide +kernel, show IntKind.u64.wrap (wrap64 (8 * 3)) = 24 from by decide +kernel, show IntKind.u64.wrap (wrap64 (8 * 2)) = 16 from by decide +kernel, show IntKind.u64.wrap (wrap64 (8 * 1)) = 8 from by decide +kernel, show IntKind.u64.wrap (wrap64 (8 * 0)) = 0 from by decide +kernel]
  simp [shr, num7, IntKind.bits]
theorem number_ev (n : Int) : Ev (fun k => impl_number.f k n) (num7 n) := by
  unfold impl_number.f
  refine ev_pos (by omega) ?_
  refine ev_step (fun k => impl_number.l0.eq_2 _ _ _ _) (ev_pos (by decide +kernel) (ev_pos (by decide +kernel) (ev_pos (by simp) ?_)))
  rw [show wrap64 (6 - 1) = 5 from by decide +kernel]
  refine ev_step (fun k => impl_number.l0.eq_2 _ _ _ _) (ev_pos (by decide +kernel) (ev_pos (by decide +kernel) (ev_pos (by simp) ?_)))
  rw [show wrap64 (5 - 1) = 4 from by decide +kernel]
  refine ev_step (fun k => impl_number.l0.eq_2 _ _ _ _) (ev_pos (by decide +kernel) (ev_pos (by decide +kernel) (ev_pos (by simp) ?_)))
  rw [show wrap64 (4 - 1) = 3 from by decide +kernel]
  refine ev_step (fun k => impl_number.l0.eq_2 _ _ _ _) (ev_pos (by decide +kernel) (ev_pos (by decide +kernel) (ev_pos (by simp) ?_)))
  rw [show wrap64 (3 - 1) = 2 from by decide +kernel]
  refine ev_step (fun k => impl_number.l0.eq_2 _ _ _ _) (ev_pos (by decide +kernel) (ev_pos (by decide +kernel) (ev_pos (by simp) ?_)))
  rw [show wrap64 (2 - 1) = 1 from by decide +kernel]
  refine ev_step (fun k => impl_number.l0.eq_2 _ _ _ _) (ev_pos (by decide +kernel) (ev_pos (by decide +kernel) (ev_pos (by simp) ?_)))
  rw [show wrap64 (1 - 1) = 0 from by decide +kernel]
  refine ev_step (fun k => impl_number.l0.eq_2 _ _ _ _) (ev_pos (by decide +kernel) (ev_pos (by decide +kernel) (ev_pos (by simp) ?_)))
  rw [show wrap64 (0 - 1) = -1 from by decide +kernel]
  refine ev_step (fun k => impl_number.l0.eq_2 _ _ _ _) (ev_neg (by decide +kernel) (ev_now ?_))
  simp [num7, List.replicate]
  omega
end Go.Proofs.Ytcgeajjkfoignaa.S

/- What the laws' markByteS and heldByteS come to: places are numbered from a start on, and found numbered so. For every slice and start that fit. -/
set_option linter.unusedVariables false
namespace Go.Proofs.Ytcgeajjkfoignaa.S
open Go.RowKit Go.Proofs.YtcgeajjkfoignaaW.PrintWords Go.Proofs.YtcgeajjkfoignaaW.PrintLast Go.Proofs.YtcgeajjkfoignaaW.PrintMore Go.Proofs.Ytcgeajjkfoignaa.Base

/-- n places numbered from a on. -/
def marked (a : Int) (n : Nat) : List Int := (List.range n).map fun (j : Nat) => (a + (j : Int)) % 256
theorem marked_length (a : Int) (n : Nat) : (marked a n).length = n := by simp [marked]
theorem marked_at (a : Int) (n j : Nat) (h : j < n) : (marked a n)[j]? = some ((a + (j : Int)) % 256) := by
  simp [marked, List.getElem?_map, List.getElem?_range h]
theorem markByteS_l0 (a : Int) (n : Nat) (h0 : 0 ≤ a) (h1 : a + n ≤ 4611686018427387904) : ∀ (d i : Nat) (x : List Int), i + d = n → x.length = n → (∀ j, j < i → x[j]? = (marked a n)[j]?) → Ev (fun k => laws_markByteS.l0 k x (a + (i : Int)) (i : Int)) (a + (n : Int), marked a n) := by
  intro d
  induction d with
  | zero =>
    intro i x hi hx hj
    refine ev_step (fun k => laws_markByteS.l0.eq_2 _ _ _ _) (ev_neg (by omega) ?_)
    have e : x = marked a n := fill_all (by rw [marked_length]; exact hx) (fun j h => hj j (by rw [marked_length] at h; omega))
    rw [e, show i = n by omega]
    exact ev_now rfl
  | succ d ih =>
    intro i x hi hx hj
    refine ev_step (fun k => laws_markByteS.l0.eq_2 _ _ _ _) (ev_pos (by omega) (ev_pos (by omega) ?_))
    rw [w64s (by omega), w64 (n := a + (i : Int) + 1) (by omega) (by omega), Int.toNat_natCast, show a + (i : Int) + 1 = a + ((i + 1 : Nat) : Int) by omega]
    refine ih (i + 1) _ (by omega) (by rw [List.length_set]; exact hx) ?_
    intro j hj'
    rw [List.getElem?_set]
    by_cases e : i = j
    · subst e
      rw [if_pos rfl, if_pos (by omega), marked_at a n i (by omega)]
    · rw [if_neg e]; exact hj j (by omega)
theorem markByteS_ev (l : List Int) (a : Int) (h0 : 0 ≤ a) (h1 : a + l.length ≤ 4611686018427387904) : Ev (fun k => laws_markByteS.f k l a) (a + (l.length : Int), marked a l.length) := by
  have h := markByteS_l0 a l.length h0 h1 l.length 0 l (by omega) rfl (fun j h => by omega)
  rw [show a + ((0 : Nat) : Int) = a by omega] at h
  exact h
theorem heldByteS_l0 (a : Int) (n : Nat) (h0 : 0 ≤ a) (h1 : a + n ≤ 4611686018427387904) : ∀ (d i : Nat), i + d = n → Ev (fun k => laws_heldByteS.l0 k (marked a n) (a + (i : Int)) (i : Int)) (a + (n : Int)) := by
  intro d
  induction d with
  | zero =>
    intro i hi
    refine ev_step (fun k => laws_heldByteS.l0.eq_2 _ _ _ _) (ev_neg (by rw [marked_length]; omega) ?_)
    rw [show i = n by omega]
    exact ev_now rfl
  | succ d ih =>
    intro i hi
    refine ev_step (fun k => laws_heldByteS.l0.eq_2 _ _ _ _) (ev_pos (by rw [marked_length]; omega) (ev_pos (by omega) (ev_pos ?_ ?_)))
    · unfold rd
      rw [List.getD_eq_getElem?_getD, Int.toNat_natCast, marked_at a n i (by omega)]
      rfl
    · rw [w64s (by omega), w64 (n := a + (i : Int) + 1) (by omega) (by omega), show a + (i : Int) + 1 = a + ((i + 1 : Nat) : Int) by omega]
      exact ih (i + 1) (by omega)
theorem heldByteS_ev (n : Nat) (a : Int) (h0 : 0 ≤ a) (h1 : a + n ≤ 4611686018427387904) : Ev (fun k => laws_heldByteS.f k (marked a n) a) (a + (n : Int)) := by
  have h := heldByteS_l0 a n h0 h1 n 0 (by omega)
  rw [show a + ((0 : Nat) : Int) = a by omega] at h
  exact h
end Go.Proofs.Ytcgeajjkfoignaa.S

/- What the laws' helpers on a BytesResult come to. For every result that fits. -/
set_option linter.unusedVariables false
namespace Go.Proofs.Ytcgeajjkfoignaa.S
open Go.RowKit Go.Proofs.YtcgeajjkfoignaaW.PrintWords Go.Proofs.YtcgeajjkfoignaaW.PrintLast Go.Proofs.YtcgeajjkfoignaaW.PrintMore Go.Proofs.Ytcgeajjkfoignaa.Base

theorem eqBytesResult_ev (c : Int) (l : List Int) (hl : l.length ≤ 281474976710656) : Ev (fun k => laws_eqBytesResult.f k c l c l) true := by
  unfold laws_eqBytesResult.f
  exact ev_pos rfl (ev_bind (eqByteS_ev l hl) (ev_pos rfl (ev_now rfl)))
theorem markBytesResult_ev (c : Int) (l : List Int) (hl : l.length ≤ 281474976710656) : Ev (fun k => laws_markBytesResult.f k c l 1) (1 + (l.length : Int), marked 1 l.length) := by
  unfold laws_markBytesResult.f
  exact ev_bind (markByteS_ev l 1 (by omega) (by omega)) (ev_now rfl)
theorem heldBytesResult_ev (c : Int) (n : Nat) (hl : n ≤ 281474976710656) : Ev (fun k => laws_heldBytesResult.f k c (marked 1 n) 1) (1 + (n : Int)) := by
  unfold laws_heldBytesResult.f
  exact ev_bind (heldByteS_ev n 1 (by omega) (by omega)) (ev_neg (by omega) (ev_now rfl))
end Go.Proofs.Ytcgeajjkfoignaa.S

/- Rows of rows of the call's own, no two of which share memory; where in memory they lie; what the laws' marks make of them. No condition beyond those in the statements. -/
set_option linter.unusedVariables false
set_option linter.unusedSimpArgs false
namespace Go.Proofs.Ytcgeajjkfoignaa.S
open Go Go.RowKit Go.Proofs.YtcgeajjkfoignaaW.PrintWords Go.Proofs.YtcgeajjkfoignaaW.PrintLast Go.Proofs.YtcgeajjkfoignaaW.PrintMore Go.Proofs.Ytcgeajjkfoignaa.Base

def In (lo hi : Nat) : Nat → Prop := fun k => lo ≤ k ∧ k < hi
theorem In_apart {lo hi a b : Nat} (h : hi ≤ a ∨ b ≤ lo) : ∀ k, In lo hi k → ¬ In a b k := fun k h1 h2 => by
  unfold In at h1 h2
  omega
/-- A row that was made lies in the blocks that are new. -/
theorem F_in {α : Type} {d : Kd α} {e base : Nat} {ok : Nat → Prop} {w : World} {v : Value} {xs : List α} (h : d.R e w base ok v xs) : ∃ A c, v = .slice A xs.length c ∧ xs.length ≤ c ∧ Kd.F d w (In base w.heap.size) A xs.length xs := by
  obtain ⟨A, c, rfl⟩ := Kd.R_slice h
  exact ⟨A, c, rfl, (Kd.R_reads' h).2.1, Kd.F_mono (Kd.R_F (Kd.R_bound h)) (fun k hk => ⟨hk.2.1, hk.2.2.1⟩)⟩
theorem F_keptIn {α : Type} {d : Kd α} {w w1 : World} {lo hi a b n : Nat} {A : Option Addr} {xs : List α} (h : Kd.F d w (In lo hi) A n xs) (hk : Kept w w1 (In a b)) (hd : hi ≤ a ∨ b ≤ lo) : Kd.F d w1 (In lo hi) A n xs := Kd.F_kept h hk (In_apart hd)
theorem add_block (ad : Addr) (i : Nat) : (ad.add i).block = ad.block := by
  unfold Addr.add
  split <;> rfl
/-- Rows of bytes, each its own memory, all between lo and hi. -/
def AR (base : Nat) (w : World) (lo hi : Nat) (A : Option Addr) (ls : List (List Int)) : Prop :=
  ls.length ≤ 9223372036854775807 ∧ (ls = [] ∨ ∃ (ad : Addr) (vs : Nat → Value), A = some ad ∧ (lo ≤ ad.block ∧ ad.block < hi) ∧
    (∀ i, (h : i < ls.length) → w.cell? (ad.add i) = some (vs i) ∧ Kd.R (Kd.int .u8) 5 w base (fun k => some k = (vs i).ownBlock) (vs i) ls[i]) ∧
    (∀ i k, i < ls.length → (vs i).ownBlock = some k → (lo ≤ k ∧ k < hi) ∧ k ≠ ad.block) ∧
    (∀ i j k, i < ls.length → j < ls.length → i ≠ j → (vs i).ownBlock = some k → (vs j).ownBlock ≠ some k))
section
variable {base lo hi a b : Nat} {w w1 : World} {A : Option Addr} {ls : List (List Int)}
theorem AR.below (h : AR base w lo hi A ls) (hb : Below w.heap.size w w1) : AR base w1 lo hi A ls := by
  refine ⟨h.1, h.2.imp id ?_⟩
  rintro ⟨ad, vs, hA, hg, hr, hin, hap⟩
  exact ⟨ad, vs, hA, hg, fun i hi => ⟨(hb.cell (World.block_lt_of_cell? w _ (hr i hi).1)).trans (hr i hi).1, Kd.R_below (hr i hi).2 hb⟩, hin, hap⟩
theorem AR.kept (h : AR base w lo hi A ls) (hk : Kept w w1 (In a b)) (hd : hi ≤ a ∨ b ≤ lo) : AR base w1 lo hi A ls := by
  refine ⟨h.1, h.2.imp id ?_⟩
  rintro ⟨ad, vs, hA, hg, hr, hin, hap⟩
  exact ⟨ad, vs, hA, hg, fun i hi => ⟨cell_kept (hr i hi).1 hk (by rw [add_block]; exact In_apart hd _ hg), Kd.R_kept (hr i hi).2 hk (fun k hk2 => In_apart hd k (hin i k hi hk2.symm).1)⟩, hin, hap⟩
theorem AR.foot (h : AR base w lo hi A ls) : Kd.F (Kd.slice 5 (Kd.int .u8)) w (In lo hi) A ls.length ls := fun W' hW => by
  refine ⟨rfl, h.1, fun hp => ?_⟩
  rcases h.2 with rfl | ⟨ad, vs, hA, hg, hr, hin, hap⟩
  · simp at hp
  refine ⟨ad, hA, fun j p hj => ?_⟩
  obtain ⟨hjl, hpj⟩ := List.getElem?_eq_some_iff.1 hj
  obtain ⟨hc, hR⟩ := hr j hjl
  have hR2 : Kd.R (Kd.int .u8) 5 W' base (fun k => some k = (vs j).ownBlock) (vs j) ls[j] := Kd.R_step hR (fun k ho hlt => hW k (hin j k hjl ho.symm).1 hlt)
  rw [hpj] at hR2
  obtain ⟨A', c', hv⟩ := Kd.R_slice hR2
  rw [hv] at hR2
  obtain ⟨_, h2, h3⟩ := Kd.R_reads' hR2
  refine ⟨[vs j], rfl, ⟨A', c', by rw [hv], h2, h3⟩, fun i u hu => ?_⟩
  cases i with
  | zero =>
    have e1 : vs j = u := by simpa using hu
    rw [← e1]
    show W'.cell? (ad.add (j * 1 + 0)) = _
    rw [Nat.mul_one, Nat.add_zero]
    have hb := hW ad.block hg (by have := World.block_lt_of_cell? w _ hc; rwa [add_block] at this)
    rw [← hc]
    unfold World.cell?
    rw [add_block, hb]
  | succ i => simp at hu
/-- A cut of such rows. -/
theorem AR.drop (h : AR base w lo hi A ls) (m c : Nat) (hm : m ≤ ls.length) (hc : ls.length ≤ c) : AR base w lo hi (if c = m then A else A.map (·.add m)) (ls.drop m) := by
  refine ⟨by have := h.1; rw [List.length_drop]; omega, ?_⟩
  rcases h.2 with rfl | ⟨ad, vs, hA, hg, hr, hin, hap⟩
  · exact .inl (by simp)
  by_cases hz : ls.length = m
  · exact .inl (List.drop_of_length_le (by omega))
  refine .inr ⟨ad.add m, fun i => vs (m + i), by rw [if_neg (by omega), hA]; rfl, by rw [add_block]; exact hg, fun i hi => ?_, fun i k hi hk => ?_, fun i j k hi hj hij hk => ?_⟩
  · have hi2 : m + i < ls.length := by rw [List.length_drop] at hi; omega
    obtain ⟨h1, h2⟩ := hr (m + i) hi2
    have ha : (ad.add m).add i = ad.add (m + i) := by
      unfold Addr.add
      by_cases h1 : m = 0 <;> by_cases h2 : i = 0 <;> simp [h1, h2, Nat.add_assoc]
    refine ⟨by rw [ha]; exact h1, ?_⟩
    rw [List.getElem_drop]
    exact h2
  · rw [List.length_drop] at hi
    rw [add_block]
    exact hin (m + i) k (by omega) hk
  · rw [List.length_drop] at hi hj
    exact hap (m + i) (m + j) k (by omega) (by omega) (by omega) hk
theorem AR.take (h : AR base w lo hi A ls) (m : Nat) : AR base w lo hi A (ls.take m) := by
  refine ⟨by have := h.1; rw [List.length_take]; omega, ?_⟩
  rcases h.2 with rfl | ⟨ad, vs, hA, hg, hr, hin, hap⟩
  · exact .inl (by simp)
  refine .inr ⟨ad, vs, hA, hg, fun i hi => ?_, fun i k hi hk => ?_, fun i j k hi hj hij hk => ?_⟩
  · rw [List.length_take] at hi
    rw [List.getElem_take]
    exact hr i (by omega)
  · rw [List.length_take] at hi
    exact hin i k (by omega) hk
  · rw [List.length_take] at hi hj
    exact hap i j k (by omega) (by omega) hij hk
theorem AR.nil (base : Nat) (w : World) (lo hi : Nat) (A : Option Addr) : AR base w lo hi A [] := ⟨by simp, .inl rfl⟩
end
/-- What the printed walks call apart is so. -/
theorem AR_of_S {e base base0 : Nat} {ok : Nat → Prop} {w : World} {v : Value} {ls : List (List Int)} (h : Kd.S (Kd.slice 5 (Kd.int .u8)) e w base0 ok v ls) (hb : base ≤ base0) :
    ∃ A c, v = .slice A ls.length c ∧ ls.length ≤ c ∧ AR base w base0 w.heap.size A ls := by
  have hR := Kd.S_R h
  obtain ⟨A, c, rfl⟩ := Kd.R_slice hR
  obtain ⟨_, hc, hC⟩ := Kd.R_reads' hR
  refine ⟨A, c, rfl, hc, hC.2.1, ?_⟩
  by_cases hz : ls = []
  · exact .inl hz
  have hp : 0 < ls.length := by cases ls with
    | nil => exact absurd rfl hz
    | cons x l => simp
  obtain ⟨f, hf⟩ := h
  obtain ⟨g, cap, hv, hg0, hg1, cells, hcells⟩ := Kd.R_form hR hp
  injection hv with hv1 hv2 hv3
  subst hv1
  have each : ∀ i, (hi : i < ls.length) → ∃ u, w.cell? ⟨g, i, none⟩ = some u ∧ Kd.R (Kd.int .u8) 5 w base0 (fun k => (ok k ∧ k ≠ g) ∧ f k = i) u ls[i] := fun i hi => by
    obtain ⟨cs, hcl, hM, hcc, _⟩ := Kd.R_elem (d := Kd.tag f (Kd.slice 5 (Kd.int .u8))) hf ([], 0) (i : Int) (by omega) (by omega)
    have e1 : ls.zipIdx.getD (i : Int).toNat ([], 0) = (ls[i], i) := by
      rw [Int.toNat_natCast, List.getD_eq_getElem?_getD, Kd.zip_at (List.getElem?_eq_getElem hi)]
      rfl
    rw [e1] at hM
    obtain ⟨u, rfl, hu⟩ := hM
    refine ⟨u, ?_, hu⟩
    have h1 := hcc 0 u rfl
    rw [Int.toNat_natCast] at h1
    have h2 : w.cell? ⟨g, i * 1 + 0, none⟩ = some u := h1
    rwa [Nat.mul_one, Nat.add_zero] at h2
  refine .inr ⟨⟨g, 0, none⟩, fun i => (w.cell? ⟨g, i, none⟩).getD (.bool false), rfl, ⟨hg0, hg1⟩, fun i hi => ?_, fun i k hi hk => ?_, fun i j k hi hj hij hk hk2 => ?_⟩
  · obtain ⟨u, hu, hr⟩ := each i hi
    rw [add_plain]
    simp only [hu, Option.getD_some]
    exact ⟨trivial, Kd.R_lower (Kd.R_tight rfl hr) hb⟩
  · obtain ⟨u, hu, hr⟩ := each i hi
    simp only [hu, Option.getD_some] at hk
    have := (Kd.R_bound hr).1 k hk
    exact ⟨⟨this.2.1, this.2.2.1⟩, this.1.1.2⟩
  · obtain ⟨u, hu, hr⟩ := each i hi
    obtain ⟨u2, hu2, hr2⟩ := each j hj
    simp only [hu, Option.getD_some] at hk
    simp only [hu2, Option.getD_some] at hk2
    have h1 := (hr.1 k hk).2
    have h2 := (hr2.1 k hk2).2
    omega
/-- One row is written. -/
theorem AR.put {base lo hi : Nat} {w w1 : World} {ad : Addr} {vs : Nat → Value} {ls : List (List Int)} {i : Nat} {l2 : List Int} (hlen : ls.length ≤ 9223372036854775807) (hg : lo ≤ ad.block ∧ ad.block < hi)
    (hr : ∀ i, (h : i < ls.length) → w.cell? (ad.add i) = some (vs i) ∧ Kd.R (Kd.int .u8) 5 w base (fun k => some k = (vs i).ownBlock) (vs i) ls[i])
    (hin : ∀ i k, i < ls.length → (vs i).ownBlock = some k → (lo ≤ k ∧ k < hi) ∧ k ≠ ad.block)
    (hap : ∀ i j k, i < ls.length → j < ls.length → i ≠ j → (vs i).ownBlock = some k → (vs j).ownBlock ≠ some k)
    (hi_ : i < ls.length) (h2 : Kd.R (Kd.int .u8) 5 w1 base (fun k => some k = (vs i).ownBlock) (vs i) l2) (hk : Kept w w1 (fun k => some k = (vs i).ownBlock)) :
    (∀ j, (h : j < (ls.set i l2).length) → w1.cell? (ad.add j) = some (vs j) ∧ Kd.R (Kd.int .u8) 5 w1 base (fun k => some k = (vs j).ownBlock) (vs j) (ls.set i l2)[j]) := by
  intro j hj
  have hj2 : j < ls.length := by simpa using hj
  obtain ⟨hc, hR⟩ := hr j hj2
  refine ⟨cell_kept hc hk (by rw [add_block]; exact fun e => (hin i _ hi_ e.symm).2 rfl), ?_⟩
  rw [List.getElem_set]
  split
  · rename_i e
    subst e
    exact h2
  · rename_i e
    exact Kd.R_kept hR hk (fun k hk1 hk2 => hap i j k hi_ hj2 e hk2.symm hk1.symm)
end Go.Proofs.Ytcgeajjkfoignaa.S
namespace Go.Proofs.Ytcgeajjkfoignaa.S
open Go Go.RowKit Go.Proofs.YtcgeajjkfoignaaW.PrintWords Go.Proofs.YtcgeajjkfoignaaW.PrintLast Go.Proofs.YtcgeajjkfoignaaW.PrintMore Go.Proofs.Ytcgeajjkfoignaa.Base
/-- Where a walk stands still: its goal under a word. -/
def Hold (p : Prop) : Prop := p
theorem hold_here {p : Prop} (h : Hold p) : p := h
theorem hold_go {p : Prop} (h : p) : Hold p := h
theorem AR.drewN {base lo hi : Nat} {w : World} {A : Option Addr} {ls : List (List Int)} (h : AR base w lo hi A ls) (n : Nat) : AR base (w.drewN n) lo hi A ls := h.below (pw_below_drewN (Below.refl _ _) n)
theorem AR.drew {base lo hi : Nat} {w : World} {A : Option Addr} {ls : List (List Int)} (h : AR base w lo hi A ls) : AR base w.drew lo hi A ls := h.below (below_drew1 (Below.refl _ _))
theorem AR.alloc {base lo hi : Nat} {w : World} {A : Option Addr} {ls : List (List Int)} (h : AR base w lo hi A ls) (o : Obj) : AR base (w.alloc o) lo hi A ls := h.below (below_alloc (Below.refl _ _) o)
/-- A row of bytes of the call's own, between lo and hi. -/
theorem B_of_R {e base base0 : Nat} {ok : Nat → Prop} {w : World} {v : Value} {xs : List Int} (h : Kd.R (Kd.int .u8) e w base0 ok v xs) (hb : base ≤ base0) :
    ∃ A c, v = .slice A xs.length c ∧ Kd.R (Kd.int .u8) e w base (In base0 w.heap.size) (.slice A xs.length c) xs := by
  obtain ⟨A, c, rfl⟩ := Kd.R_slice h
  exact ⟨A, c, rfl, Kd.R_lower (Kd.R_mono (Kd.R_bound h) (fun k hk => ⟨hk.2.1, hk.2.2.1⟩)) hb⟩
theorem B_kept {e base lo hi a b : Nat} {w w1 : World} {v : Value} {xs : List Int} (h : Kd.R (Kd.int .u8) e w base (In lo hi) v xs) (hk : Kept w w1 (In a b)) (hd : hi ≤ a ∨ b ≤ lo) : Kd.R (Kd.int .u8) e w1 base (In lo hi) v xs := Kd.R_kept h hk (In_apart hd)
theorem B_tight {e base lo hi : Nat} {ok : Nat → Prop} {w w0 : World} {v : Value} {xs ys : List Int} (h0 : Kd.R (Kd.int .u8) e w0 base (In lo hi) v ys) (h : Kd.R (Kd.int .u8) e w base ok v xs) : Kd.R (Kd.int .u8) e w base (In lo hi) v xs := Kd.R_mono (Kd.R_tight rfl h) (fun k hk => h0.1 k hk.symm)
theorem blk_keptIn {g a b : Nat} {w w1 : World} {o : Obj} (h : w.heap[g]? = some o) (hk : Kept w w1 (In a b)) (hd : g < a ∨ b ≤ g) : w1.heap[g]? = some o := blk_kept h hk (fun h2 => by unfold In at h2; omega)
theorem row_store {P : Program} {ops : Array Oper} {rest : List Oper} {o : Oper} {a : Act} {w w0 : World} {B : Nat} {Q : Exit → Act → World → Prop} (hgd : o.guard = none) (ty : TypeId) (x y : Operand) (ho : o.op = .store ty x y)
    (g : Nat) (cells : Array Value) (hx : a.eval x = .pointer (some ⟨g, 0, none⟩)) (hy : a.eval y = .agg cells)
    (t : TypeId) (old : Array Value) (hg : w.heap[g]? = some (.cells old t (0, 0))) (hi : (P.info? ty).map (·.size) = some cells.size)
    (hold : old.size = cells.size) (h1 : cells.all (·.oneCell') = true) (hd : o.dst = none) (hb : Below B w0 w) (hB : B ≤ g)
    (h : ∀ w1 : World, w1.heap[g]? = some (.cells cells t (0, 0)) → Kept w w1 (In g (g + 1)) → Below B w0 w1 → wpList P ops Q rest a w1) : wpList P ops Q (o :: rest) a w := by
  refine wpList_store_row hgd ty x y ho g cells hx hy t old hg hi hold h1 ?_
  rw [hd]
  exact h _ (setRow_heap w g old cells t (0, 0) hg) ⟨by simp [World.setRow], fun k hk hn => setRow_other w g k cells (fun e => hn (by subst e; exact ⟨Nat.le_refl _, Nat.lt_succ_self _⟩))⟩ (below_setRow hb hB cells)
end Go.Proofs.Ytcgeajjkfoignaa.S

/- The laws' mark of validators: it writes their keys and powers alone, place by place. No condition beyond those in the statement. -/
set_option linter.unusedVariables false
set_option linter.unusedSimpArgs false
namespace Go.Proofs.Ytcgeajjkfoignaa.S
open Go Go.RowKit Go.Proofs.YtcgeajjkfoignaaW.PrintWords Go.Proofs.YtcgeajjkfoignaaW.PrintLast Go.Proofs.YtcgeajjkfoignaaW.PrintMore Go.Proofs.Ytcgeajjkfoignaa.Base
attribute [local go_sem] max2_int min2_int max_two min_two max_three min_three max_four min_four

/-- Validators of the call's own: their keys each its own memory, all between lo and hi; from the i-th on the keys are as they were. -/
def AV (base : Nat) (w : World) (lo hi g : Nat) (vs : Nat → Value) (ls : List S79) (i : Nat) : Prop :=
  (∃ C : Array Value, w.heap[g]? = some (.cells C 79 (0, 0)) ∧ ∀ j, j < ls.length → C[j * 2]? = some (vs j) ∧ ∃ u, C[j * 2 + 1]? = some u) ∧
  (∀ j, i ≤ j → (h : j < ls.length) → Kd.R (Kd.int .u8) 5 w base (fun k => some k = (vs j).ownBlock) (vs j) (ls[j]).f0)
/-- Where they lie. -/
def AVs (lo hi g : Nat) (vs : Nat → Value) (n : Nat) : Prop :=
  (lo ≤ g ∧ g < hi) ∧ (∀ i k, i < n → (vs i).ownBlock = some k → (lo ≤ k ∧ k < hi) ∧ k ≠ g) ∧ (∀ i j k, i < n → j < n → i ≠ j → (vs i).ownBlock = some k → (vs j).ownBlock ≠ some k)
theorem AV_of_S {e base base0 : Nat} {ok : Nat → Prop} {w : World} {v : Value} {ls : List S79} (h : Kd.S k79 79 w base0 ok v ls) (hb : base ≤ base0) (hp : 0 < ls.length) :
    ∃ g c vs, v = .slice (some ⟨g, 0, none⟩) ls.length c ∧ ls.length ≤ c ∧ AVs base0 w.heap.size g vs ls.length ∧ AV base w base0 w.heap.size g vs ls 0 := by
  have hR := Kd.S_R h
  obtain ⟨g, cap, hv, hg0, hg1, C, hC⟩ := Kd.S_form h hp
  subst hv
  obtain ⟨_, hc, _⟩ := Kd.R_reads' hR
  obtain ⟨f, hf⟩ := h
  have each : ∀ i, (hi : i < ls.length) → ∃ u, C[i * 2]? = some u ∧ C[i * 2 + 1]? = some (.int .i64 (ls[i]).f1) ∧ Kd.R (Kd.int .u8) 5 w base0 (fun k => (ok k ∧ k ≠ g) ∧ f k = i) u (ls[i]).f0 := fun i hi => by
    obtain ⟨cs, hcl, hM, hcc, _⟩ := Kd.R_elem (d := Kd.tag f k79) hf (z79, 0) (i : Int) (by omega) (by omega)
    have e1 : ls.zipIdx.getD (i : Int).toNat (z79, 0) = (ls[i], i) := by
      rw [Int.toNat_natCast, List.getD_eq_getElem?_getD, Kd.zip_at (List.getElem?_eq_getElem hi)]
      rfl
    rw [e1] at hM
    obtain ⟨u, rfl, hu⟩ := k79_openM hM
    have h0 := hcc 0 u rfl
    have h1 := hcc 1 _ rfl
    rw [Int.toNat_natCast] at h0 h1
    have h0' : w.cell? ⟨g, i * 2 + 0, none⟩ = some u := h0
    have h1' : w.cell? ⟨g, i * 2 + 1, none⟩ = some (.int .i64 (ls[i]).f1) := h1
    rw [blk_cell hC] at h0' h1'
    exact ⟨u, h0', h1', hu⟩
  refine ⟨g, cap, fun i => (C[i * 2]?).getD (.bool false), rfl, hc, ⟨⟨hg0, hg1⟩, fun i k hi hk => ?_, fun i j k hi hj hij hk hk2 => ?_⟩, ⟨C, hC, fun j hj => ?_⟩, fun j _ hj => ?_⟩
  · obtain ⟨u, hu, _, hr⟩ := each i hi
    simp only [hu, Option.getD_some] at hk
    have := (Kd.R_bound hr).1 k hk
    exact ⟨⟨this.2.1, this.2.2.1⟩, this.1.1.2⟩
  · obtain ⟨u, hu, _, hr⟩ := each i hi
    obtain ⟨u2, hu2, _, hr2⟩ := each j hj
    simp only [hu, Option.getD_some] at hk
    simp only [hu2, Option.getD_some] at hk2
    have h1 := (hr.1 k hk).2
    have h2 := (hr2.1 k hk2).2
    omega
  · obtain ⟨u, hu, h1, hr⟩ := each j hj
    simp only [hu, Option.getD_some]
    exact ⟨trivial, _, h1⟩
  · obtain ⟨u, hu, _, hr⟩ := each j hj
    simp only [hu, Option.getD_some]
    exact Kd.R_lower (Kd.R_tight rfl hr) hb
/-- Where a walk stands still. -/
def StopV (p : Prop) : Prop := p
theorem stop_hereV {p : Prop} (h : StopV p) : p := h
theorem stop_goV {p : Prop} (h : p) : StopV p := h
/-- How far the marks come. -/
def offv (ls : List S79) (i : Nat) : Nat := ((ls.take i).map fun y => y.f0.length + 1).sum
theorem offv_step (ls : List S79) (i : Nat) (h : i < ls.length) : offv ls (i + 1) = offv ls i + (ls[i].f0.length + 1) := by
  unfold offv
  rw [List.take_succ_eq_append_getElem h, List.map_append, List.sum_append]
  simp
theorem offv_le (ls : List S79) : ∀ (d i : Nat), i + d = ls.length → offv ls i ≤ offv ls ls.length := by
  intro d
  induction d with
  | zero => intro i h; rw [show i = ls.length by omega]; exact Nat.le_refl _
  | succ d ih =>
    intro i h
    have := ih (i + 1) (by omega)
    have := offv_step ls i (by omega)
    omega
theorem add_two (g i : Nat) : (⟨g, 0, none⟩ : Addr).add (i * 2) = ⟨g, i * 2, none⟩ := by unfold Addr.add; split <;> simp_all
set_option maxHeartbeats 8000000 in
set_option maxRecDepth 100000 in
theorem markVal_calls (ls : List S79) (a : Int) (h0 : 0 ≤ a) (h1 : a + (offv ls ls.length : Int) ≤ 4611686018427387904) (w0 w : World) (lo hi g : Nat) (vs : Nat → Value) (c : Nat) (hB : Below w0.heap.size w0 w) (hlo : w0.heap.size ≤ lo) (hS : AVs lo hi g vs ls.length) (hA : AV w0.heap.size w lo hi g vs ls 0) (hc : ls.length ≤ c) (hl : ls.length ≤ 1000000000) :
    Calls Try.prog 33 #[.slice (some ⟨g, 0, none⟩) ls.length c, .int .i64 a] w fun e w' => e = .returned (.int .i64 (a + (offv ls ls.length : Int))) ∧ Below w0.heap.size w0 w' ∧ Kept w w' (In lo hi) := by
  have HG := Aside0.mk hS.1
  have HI := Aside0.mk hS.2.1
  have HP := Aside0.mk hS.2.2
  have HL := Aside0.mk hl
  have HLO := Aside0.mk hlo
  have H0 := Aside0.mk h0
  have H1 := Aside0.mk h1
  have HB := Aside0.mk hB
  have HA := Aside0.mk hA
  have HK := Aside0.mk (Kept.refl w (In lo hi))
  obtain ⟨ad, had⟩ : ∃ ad : Addr, ad = ⟨g, 0, none⟩ := ⟨_, rfl⟩
  rw [← had]
  have HAD := Aside0.mk had
  clear hS hl hlo h0 h1 hB hA hc had
  go_enter Try.func33, Try.ntmps33
  go_wp2
  go_loopg [1, 5] ls.length (fun kq v1 v5 w' => ∃ i : Nat, v5 = .int .i64 (i : Int) ∧ v1 = .int .i64 (a + (offv ls i : Int)) ∧ Aside0 (i + kq = ls.length) ∧ Aside0 (AV w0.heap.size w' lo hi g vs ls i) ∧ Aside0 (Below w0.heap.size w0 w') ∧ Aside0 (Kept w w' (In lo hi)))
  case atStart => exact ⟨0, rfl, by simp [offv], ⟨by omega⟩, HA, HB, HK⟩
  case round =>
    clear HA HB HK
    obtain ⟨i, rfl, rfl, HJ, HA, HB, HK⟩ := hrel
    cases gk with
    | zero =>
      have e := HJ.out
      obtain rfl : i = ls.length := by omega
      have c1_ : decide ((ls.length : Int) < (ls.length : Int)) = false := decide_eq_false (by omega)
      clear e
      go_wp2
      go_ret
      exact ⟨rfl, HB.out, HK.out⟩
    | succ k1 =>
      have e := HJ.out
      have hlt : i < ls.length := by omega
      have hll := HL.out
      have c1_ : decide ((i : Int) < (ls.length : Int)) = true := decide_eq_true (by omega)
      have p0 : (0 ≤ (i : Int)) = True := eq_true (by omega)
      have p1 : ((i : Int) < (ls.length : Int)) = True := eq_true (by omega)
      obtain ⟨C, hC, hcs⟩ := HA.out.1
      have hRi := HA.out.2 i (Nat.le_refl _) hlt
      have hx : wr.cell? (ad.add (i * 2)) = some (vs i) := by
        rw [HAD.out, add_two, blk_cell hC]
        exact (hcs i hlt).1
      have ho := offv_step ls i hlt
      have hle := offv_le ls (ls.length - (i + 1)) (i + 1) (by omega)
      have H0' := H0.out
      have H1' := H1.out
      obtain ⟨row, hrow⟩ : ∃ r, r = (ls[i]).f0 := ⟨_, rfl⟩
      rw [← hrow] at hRi ho
      obtain ⟨km, hkm⟩ := (markByteS_ev row (a + (offv ls i : Int)) (by omega) (by omega)).rounds
      have HM := Aside0.mk hkm
      have HRi := Aside0.mk hRi
      have HC := Aside0.mk hC
      have HCS := Aside0.mk hcs
      have HO := Aside0.mk (show wrap64 (a + (offv ls i : Int) + (row.length : Int) + 1) = a + (offv ls (i + 1) : Int) by rw [w64 (by omega) (by omega)]; omega)
      have HLT := Aside0.mk hlt
      obtain ⟨x, hx1⟩ : ∃ x, x = a + (offv ls i : Int) + (row.length : Int) := ⟨_, rfl⟩
      rw [← hx1] at HO
      have HX := Aside0.mk hx1
      clear hkm hRi e hll ho hle H0' H1' hrow hlt hC hcs hx1
      go_wp2_with (first | (go_at_call 14; refine (laws_markByteS.calls km (fun k => some k = (vs i).ownBlock) (vs i) row _ _ _ w0 _ HB.out HRi.out HM.out).mono ?_; rintro e w1 ⟨rfl, hR1, hb1, hk1⟩; have HB1 := Aside0.mk hb1; have HK1 := Aside0.mk hk1; have HC1 := Aside0.mk (blk_kept HC.out hk1 (fun hq => (HI.out i g HLT.out hq.symm).2 rfl)); have hz1 : w1.cell? ⟨(ad.add (i * 2)).block, (ad.add (i * 2)).off + 1, none⟩ = some (((HCS.out i HLT.out).2).choose) := (by rw [HAD.out, add_two, blk_cell HC1.out]; exact ((HCS.out i HLT.out).2).choose_spec); have hf1 : w1.frozen? ⟨(ad.add (i * 2)).block, (ad.add (i * 2)).off + 1, none⟩ = false := (by rw [HAD.out, add_two]; exact blk_frozen HC1.out _); rw [← HX.out]; clear hR1 hb1 hk1 hx) | ((with_reducible refine gate_store (t := 2) (p := 23) (v := .tmp 21) rfl ?_); refine stop_hereV ?_))
      refine stop_goV ?_
      refine store_event (w1 := w1.setCell ⟨(ad.add (i * 2)).block, (ad.add (i * 2)).off + 1, none⟩ (.int .i64 x)) rfl rfl rfl ?hr ?_
      case hr => go_simp
      intro w2 hw2
      rw [HAD.out, add_two] at hw2
      have HC2 := Aside0.mk (show w2.heap[g]? = some (.cells (C.setIfInBounds (i * 2 + 1) (.int .i64 x)) 79 (0, 0)) by rw [hw2]; exact blk_set HC1.out _ _)
      have HB2 := Aside0.mk (show Below w0.heap.size w0 w2 by rw [hw2]; exact below_set (g := g) HB1.out (by have := HLO.out; have := HG.out; omega))
      have HK2 := Aside0.mk (show Kept w w2 (In lo hi) by rw [hw2]; exact (HK.out.then_ HK1.out (fun k hk => .inl (HI.out i k HLT.out hk.symm).1)).setCell (p := ⟨g, i * 2 + 1, none⟩) (.inl (show In lo hi g from HG.out)) _)
      have HA2 := Aside0.mk (show AV w0.heap.size w2 lo hi g vs ls (i + 1) from ⟨⟨_, HC2.out, fun j hj => by
        obtain ⟨q1, u, q2⟩ := HCS.out j hj
        rw [Array.getElem?_setIfInBounds, Array.getElem?_setIfInBounds]
        refine ⟨by rw [if_neg (by omega)]; exact q1, ?_⟩
        by_cases hji : i = j
        · subst hji
          rw [if_pos rfl, if_pos (Array.getElem?_eq_some_iff.1 q2).1]
          exact ⟨_, rfl⟩
        · rw [if_neg (by omega)]
          exact ⟨u, q2⟩⟩, fun j hj hjl => by
        have r1 := Kd.R_kept (HA.out.2 j (by omega) hjl) HK1.out (fun k q1 q2 => HP.out i j k HLT.out hjl (by omega) q2.symm q1.symm)
        rw [hw2]
        exact Kd.R_far r1 (fun k q => (HI.out j k hjl q.symm).2) _⟩)
      clear hw2 HC HC1 HC2 HB HB1 HK HK1 HA HRi HCS hz1 hf1
      go_wp2
      rw [HO.out]
      go_roundg k1
      case measure => have := HJ.out; omega
      case rel => exact ⟨i + 1, by first | rfl | (rw [w64s (by have := HJ.out; have := HL.out; omega)]), rfl, ⟨by have := HJ.out; omega⟩, HA2, HB2, HK2⟩
theorem markVal_nil (a : Int) (A : Option Addr) (c : Nat) (w : World) :
    Calls Try.prog 33 #[.slice A 0 c, .int .i64 a] w fun e w' => e = .returned (.int .i64 a) ∧ w' = w := by
  go_enter Try.func33, Try.ntmps33
  go_wp2
  go_loopg [1, 5] 0 (fun kq v1 v5 w' => v1 = .int .i64 a ∧ v5 = .int .i64 0 ∧ w' = w)
  case atStart => exact ⟨rfl, rfl, rfl⟩
  case round =>
    obtain ⟨rfl, rfl, rfl⟩ := hrel
    go_wp2
    go_ret
    exact ⟨rfl, rfl⟩

end Go.Proofs.Ytcgeajjkfoignaa.S

/- Steps of regions that draw their order: a box made, a struct stored, a whole array loaded; words that are read. No condition beyond those in the statements. -/
set_option linter.unusedVariables false
set_option linter.unusedSimpArgs false
namespace Go.Proofs.Ytcgeajjkfoignaa.S
open Go Go.RowKit Go.Proofs.YtcgeajjkfoignaaW.PrintWords Go.Proofs.YtcgeajjkfoignaaW.PrintLast Go.Proofs.YtcgeajjkfoignaaW.PrintMore Go.Proofs.Ytcgeajjkfoignaa.Base

theorem box_stepK {P : Program} {ops : Array Oper} {Q : Exit → Act → World → Prop} {oi : Oper} {N : Option Tmp} {a : Act} {W : World} {K : Act → World → Prop} {cs : Array Value} {t : TypeId} (hw : Region.wanted oi (yielded ops a.tmps) = true) (hN : oi.dst = N)
    (hrun : (execOp a.eval oi).run P W = .ok (.value (.pointer (some ⟨W.heap.size, 0, none⟩))) (W.alloc (.cells cs t (0, 0))))
    (h : ∀ g, g = W.heap.size → ∀ w1, w1.heap[g]? = some (.cells cs t (0, 0)) → Below W.heap.size W w1 → K (a.put N (.pointer (some ⟨g, 0, none⟩))) w1) : if Region.wanted oi (yielded ops a.tmps) = true then Oper.wp P oi a W K Q else K (a.put N undef) W :=
  value_ hw hN hrun (h _ rfl _ (blk_new W _) (below_alloc (Below.refl _ _) _))
theorem row_stepK {P : Program} {ops : Array Oper} {Q : Exit → Act → World → Prop} {o : Oper} {a : Act} {w w0 : World} {B : Nat} {K : Act → World → Prop} (hw : Region.wanted o (yielded ops a.tmps) = true) (ty : TypeId) (x y : Operand) (ho : o.op = .store ty x y)
    (g : Nat) (cells : Array Value) (hx : a.eval x = .pointer (some ⟨g, 0, none⟩)) (hy : a.eval y = .agg cells)
    (t : TypeId) (old : Array Value) (hg : w.heap[g]? = some (.cells old t (0, 0))) (hi : (P.info? ty).map (·.size) = some cells.size)
    (hold : old.size = cells.size) (h1 : cells.all (·.oneCell') = true) (hd : o.dst = none) (hb : Below B w0 w) (hB : B ≤ g)
    (h : ∀ w1 : World, w1.heap[g]? = some (.cells cells t (0, 0)) → Kept w w1 (In g (g + 1)) → Below B w0 w1 → K a w1) : if Region.wanted o (yielded ops a.tmps) = true then Oper.wp P o a w K Q else K (a.put none undef) w := by
  rw [if_pos hw]
  refine wp_store_row ty x y ho g cells hx hy t old hg hi hold h1 ?_
  rw [hd]
  exact h _ (setRow_heap w g old cells t (0, 0) hg) ⟨by simp [World.setRow], fun k hk hn => setRow_other w g k cells (fun e => hn (by subst e; exact ⟨Nat.le_refl _, Nat.lt_succ_self _⟩))⟩ (below_setRow hb hB cells)
theorem load_row_runK {P : Program} {o : Oper} {a : Act} (ty : TypeId) (x : Operand) (ho : o.op = .load ty x) (g : Nat) (hx : a.eval x = .pointer (some ⟨g, 0, none⟩)) {w : World} (t : TypeId) (cs : Array Value) (fr : Nat × Nat) (d : TypeDesc) (hg : w.heap[g]? = some (.cells cs t fr))
    (hu : P.underlying ty = some d) (hd : (match d with | .struct _ | .array _ _ => true | _ => false) = true) (hi : (P.info? ty).map (·.size) = some cs.size) : (execOp a.eval o).run P w = .ok (.value (.agg cs)) w := by
  unfold execOp
  simp only [ho, hx, Instr.loadAt, Instr.sureAddr, Sem.run_bind, Sem.run_pure, Result.andThen_ok, run_loadVar_row w g t ty cs fr d hg hu hd hi]
theorem word_at {w : World} {A : Option Addr} {ls : List (List Int)} (h : Kd.C (Kd.slice 5 (Kd.int .u8)) w A ls.length ls) (i : Nat) (hi : i < ls.length) : ∃ ad A0 c0, A = some ad ∧ w.cell? (ad.add i) = some (.slice A0 (ls[i]!).length c0) ∧ (ls[i]!).length ≤ c0 ∧ (Kd.int .u8).C w A0 (ls[i]!).length (ls[i]!) := by
  rw [getElem!_pos ls i hi]
  obtain ⟨ad, c, e, _, hK, hc0⟩ := Kd.C_get h ([] : List Int) (i : Int) (by omega) (by omega)
  have hc : ∀ j u, c[j]? = some u → w.cell? (ad.add (i * 1 + j)) = some u := hc0
  rw [Int.toNat_natCast, List.getD_eq_getElem?_getD, List.getElem?_eq_getElem hi, Option.getD_some] at hK
  obtain ⟨A0, c0, rfl, l0, g0⟩ := hK
  exact ⟨ad, A0, c0, e, by have hq := hc 0 _ rfl; rwa [Nat.mul_one, Nat.add_zero] at hq, l0, g0⟩
theorem byte_at {w : World} {A : Option Addr} {n : Nat} {x : Int} (h : (Kd.int .u8).C w A n [x]) : ∃ ad, A = some ad ∧ w.cell? ad = some (.int .u8 x) := by
  have hn : n = 1 := h.1.symm
  subst hn
  obtain ⟨ad, e, hc⟩ := Kd.at_int h 0 (by omega) (by omega)
  exact ⟨ad, e, by have h2 : w.cell? (ad.add 0) = _ := hc; rw [Addr.add_zero'] at h2; exact h2⟩
theorem AR.grow {base lo hi lo2 hi2 : Nat} {w : World} {A : Option Addr} {ls : List (List Int)} (h : AR base w lo hi A ls) (ha : lo2 ≤ lo) (hb : hi ≤ hi2) : AR base w lo2 hi2 A ls := by
  refine ⟨h.1, h.2.imp id ?_⟩
  rintro ⟨ad, vs, hA, hg, hr, hin, hap⟩
  exact ⟨ad, vs, hA, ⟨by omega, by omega⟩, hr, fun i k hi hk => ⟨⟨by have := (hin i k hi hk).1; omega, by have := (hin i k hi hk).1; omega⟩, (hin i k hi hk).2⟩, hap⟩
theorem word_own {base lo hi : Nat} {w : World} {A : Option Addr} {ls : List (List Int)} (h : AR base w lo hi A ls) (i : Nat) (hi_ : i < ls.length) : ∃ ad B d, A = some ad ∧ w.cell? (ad.add i) = some (.slice B (ls[i]!).length d) ∧ Kd.R (Kd.int .u8) 5 w base (In lo hi) (.slice B (ls[i]!).length d) (ls[i]!) := by
  rw [getElem!_pos ls i hi_]
  rcases h.2 with rfl | ⟨ad, vs, rfl, hg, hr, hin, hap⟩
  · simp at hi_
  obtain ⟨hc, hR⟩ := hr i hi_
  obtain ⟨B, d, hv⟩ := Kd.R_slice hR
  rw [hv] at hR hc
  exact ⟨ad, B, d, rfl, hc, Kd.R_mono hR (fun k hk => (hin i k hi_ (by rw [hv]; exact hk.symm)).1)⟩
theorem below_keptIn {w W0 W W1 : World} {n a b : Nat} (h : Below W0.heap.size W0 W) (hk : Kept W W1 (In a b)) (ha : W0.heap.size ≤ a) (e1 : Below n w W) (e2 : Below n w W1) : Below W0.heap.size W0 W1 :=
  ⟨e2.os.trans (e1.os.symm.trans h.os), e2.tape.trans (e1.tape.symm.trans h.tape), e2.output.trans (e1.output.symm.trans h.output), Nat.le_trans h.size hk.1, fun k hk2 => (hk.2 k (Nat.lt_of_lt_of_le hk2 h.size) (fun h3 => by unfold In at h3; omega)).trans (h.block k hk2)⟩
theorem AR.lower {base base2 lo hi : Nat} {w : World} {A : Option Addr} {ls : List (List Int)} (h : AR base w lo hi A ls) (hb : base2 ≤ base) : AR base2 w lo hi A ls := by
  refine ⟨h.1, h.2.imp id ?_⟩
  rintro ⟨ad, vs, hA, hg, hr, hin, hap⟩
  exact ⟨ad, vs, hA, hg, fun i hi => ⟨(hr i hi).1, Kd.R_lower (hr i hi).2 hb⟩, hin, hap⟩
end Go.Proofs.Ytcgeajjkfoignaa.S

/- Validators that were made: how they are read, where they lie; the mark of them. No condition beyond those in the statement. -/
set_option linter.unusedVariables false
set_option linter.unusedSimpArgs false
namespace Go.Proofs.Ytcgeajjkfoignaa.S
open Go Go.RowKit Go.Proofs.YtcgeajjkfoignaaW.PrintWords Go.Proofs.YtcgeajjkfoignaaW.PrintLast Go.Proofs.YtcgeajjkfoignaaW.PrintMore Go.Proofs.Ytcgeajjkfoignaa.Base

def AVo (base : Nat) (w : World) (lo hi : Nat) (A : Option Addr) (ls : List S79) : Prop := ls = [] ∨ ∃ g vs, A = some ⟨g, 0, none⟩ ∧ AVs lo hi g vs ls.length ∧ AV base w lo hi g vs ls 0
theorem AVo.below {base lo hi : Nat} {w w1 : World} {A : Option Addr} {ls : List S79} (h : AVo base w lo hi A ls) (hb : Below w.heap.size w w1) : AVo base w1 lo hi A ls := by
  rcases h with h | ⟨g, vs, hA, hs, ⟨C, hC, hc⟩, hr⟩
  · exact .inl h
  · exact .inr ⟨g, vs, hA, hs, ⟨C, blk_below hC hb, hc⟩, fun j h0 hj => Kd.R_below (hr j h0 hj) hb⟩
theorem AVo.kept {base lo hi a b : Nat} {w w1 : World} {A : Option Addr} {ls : List S79} (h : AVo base w lo hi A ls) (hk : Kept w w1 (In a b)) (hd : hi ≤ a ∨ b ≤ lo) : AVo base w1 lo hi A ls := by
  rcases h with h | ⟨g, vs, hA, hs, ⟨C, hC, hc⟩, hr⟩
  · exact .inl h
  · exact .inr ⟨g, vs, hA, hs, ⟨C, blk_kept hC hk (In_apart hd g hs.1), hc⟩, fun j h0 hj => Kd.R_kept (hr j h0 hj) hk (fun k hk2 => In_apart hd k (hs.2.1 j k hj hk2.symm).1)⟩
theorem val_of_S {e base base0 : Nat} {ok : Nat → Prop} {w : World} {v : Value} {ls : List S79} (h : Kd.S k79 79 w base0 ok v ls) (hb : base ≤ base0) :
    ∃ A c, v = .slice A ls.length c ∧ ls.length ≤ c ∧ Kd.F k79 w (In base0 w.heap.size) A ls.length ls ∧ AVo base w base0 w.heap.size A ls := by
  obtain ⟨A, c, hv, hc, hF⟩ := F_in (Kd.S_R h)
  refine ⟨A, c, hv, hc, hF, ?_⟩
  by_cases hp : 0 < ls.length
  · obtain ⟨g, c2, vs, hv2, _, h1, h2⟩ := AV_of_S (e := e) h hb hp
    rw [hv] at hv2
    injection hv2 with e1 e2 e3
    exact .inr ⟨g, vs, e1, h1, h2⟩
  · exact .inl (List.eq_nil_of_length_eq_zero (by omega))
theorem markValO_calls (ls : List S79) (a : Int) (h0 : 0 ≤ a) (n : Nat) (hn : offv ls ls.length = n) (h1 : a + (n : Int) ≤ 4611686018427387904) (w0 w : World) (lo hi : Nat) (A : Option Addr) (c : Nat) (hB : Below w0.heap.size w0 w) (hlo : w0.heap.size ≤ lo) (hA : AVo w0.heap.size w lo hi A ls) (hc : ls.length ≤ c) (hl : ls.length ≤ 1000000000) :
    Calls Try.prog 33 #[.slice A ls.length c, .int .i64 a] w fun e w' => e = .returned (.int .i64 (a + (n : Int))) ∧ Below w0.heap.size w0 w' ∧ Kept w w' (In lo hi) := by
  subst hn
  rcases hA with rfl | ⟨g, vs, rfl, hs, ha⟩
  · refine (markVal_nil a A c w).mono fun e w' h => ?_
    obtain ⟨rfl, rfl⟩ := h
    exact ⟨by simp [offv], hB, Kept.refl _ _⟩
  · exact markVal_calls ls a h0 h1 w0 w lo hi g vs c hB hlo hs ha hc hl
theorem heldBytesResult_len (k : Nat) (r1 : Int) (A : Option Addr) (c : Nat) (ms : List Int) (n : Nat) (hn : ms.length = n) (a r : Int) (w : World) (hr : Kd.C (Kd.int .u8) w A ms.length ms) (hc : n ≤ c) (h : laws_heldBytesResult.f k r1 ms a = some r) :
    Calls Try.prog 35 #[.agg #[.int .i64 r1, .slice A n c], .int .i64 a] w fun e w' => e = .returned (.int .i64 r) ∧ Below w.heap.size w w' := by
  subst hn
  exact laws_heldBytesResult.calls k r1 A c ms a r w hr hc h
end Go.Proofs.Ytcgeajjkfoignaa.S

/- The walk over the law FnExactSetDigest: the program and the reference are called, compared, and what they hold is marked. No condition beyond those in the statements. -/
set_option linter.unusedVariables false
set_option linter.unusedSimpArgs false
namespace Go.Proofs.Ytcgeajjkfoignaa.S
open Go Go.RowKit Go.Proofs.YtcgeajjkfoignaaW.PrintWords Go.Proofs.YtcgeajjkfoignaaW.PrintLast Go.Proofs.YtcgeajjkfoignaaW.PrintMore Go.Proofs.Ytcgeajjkfoignaa.Base
attribute [local go_sem] max2_int min2_int max_two min_two max_three min_three max_four min_four

set_option maxHeartbeats 80000000 in
set_option maxRecDepth 100000 in
theorem law_SetDigest (A0 : Option Addr) (c0 : Nat) (l0 : List S76) (l1 : List S79) (q0 : Int) (rb : List Int) (n0 : Nat) (mr : List Int) (sz : Int) (w : World) (hr0 : Kd.C k76 w A0 l0.length l0) (hc0 : l0.length ≤ c0)
    (keqr keqv khr kimpl kmr kspec ksz kto : Nat) (h_sz : laws_szValidatorS.f ksz l0 1048576 = some sz) (h_szc : ¬ sz < 0) (h_to : laws_toValidatorS.f kto l0 = some l1) (h_eqv : laws_eqValidatorS.f keqv l1 l1 = some true) (h_spec : spec_SetDigest.f kspec l1 = some (q0, rb)) (h_impl : impl_SetDigest.f kimpl l1 = some (q0, rb)) (h_eqr : laws_eqBytesResult.f keqr q0 rb q0 rb = some true) (h_n0 : offv l1 l1.length = n0) (h_p0 : (1 : Int) + (n0 : Int) ≤ 4611686018427387904) (h_u0 : l1.length ≤ 1000000000) (h_mr : laws_markBytesResult.f kmr q0 rb 1 = some (1 + (rb.length : Int), mr)) (h_lr : mr.length = rb.length) (h_hr : laws_heldBytesResult.f khr q0 mr 1 = some (1 + (rb.length : Int))) :
    Calls Try.prog 6 #[.slice A0 l0.length c0] w fun e w' => e = .returned (.bool true) ∧ Below w.heap.size w w' := by
  have hu0_ := Try.underlying55
  have HR0 := Aside0.mk hr0
  have HC0 := Aside0.mk hc0
  have H_sz := Aside0.mk h_sz
  have H_szc := Aside0.mk h_szc
  have H_to := Aside0.mk h_to
  have H_eqv := Aside0.mk h_eqv
  have H_spec := Aside0.mk h_spec
  have H_impl := Aside0.mk h_impl
  have H_eqr := Aside0.mk h_eqr
  have H_n0 := Aside0.mk h_n0
  have H_p0 := Aside0.mk h_p0
  have H_u0 := Aside0.mk h_u0
  have H_mr := Aside0.mk h_mr
  have H_lr := Aside0.mk h_lr
  have H_hr := Aside0.mk h_hr
  have HB := Aside0.mk (Below.refl w.heap.size w)
  have ZZ := Aside0.mk (Nat.le_refl w.heap.size)
  have csz_ : decide (sz < 0) = false := decide_eq_false h_szc
  have cz_ : decide ((1 + (rb.length : Int)) < 0) = false := decide_eq_false (by omega)
  have cy_ : decide ((1 + (n0 : Int)) < 0) = false := decide_eq_false (by omega)
  clear hr0 hc0 h_sz h_szc h_to h_eqv h_spec h_impl h_eqr h_n0 h_p0 h_u0 h_mr h_lr h_hr
  go_enter Try.func6, Try.ntmps6
  go_wp2_with (first | (go_at_call 27; refine hold_here ?_))
  refine hold_go ?_
  refine (laws_szValidatorS.calls _ A0 c0 l0 1048576 sz _ ?s1 ?s2 H_sz.out).mono ?_
  case s1 => exact Kd.C_below HR0.out HB.out
  case s2 => exact HC0.out
  rintro e w1_ ⟨rfl, hb⟩
  replace HB := Aside0.mk (below_step HB.out hb)
  replace ZZ := Aside0.mk (And.intro ZZ.out (show w.heap.size ≤ w1_.heap.size from hb.size))
  clear hb
  go_wp2_with (first | (go_at_call 29; refine hold_here ?_))
  refine hold_go ?_
  refine (laws_toValidatorS.calls _ A0 c0 l0 l1 _ ?s1 ?s2 H_to.out).mono ?_
  case s1 => exact Kd.C_below HR0.out HB.out
  case s2 => exact HC0.out
  rintro e w2_ ⟨v, rfl, ho, hb⟩
  replace HB := Aside0.mk (below_step HB.out hb)
  replace ZZ := Aside0.mk (And.intro ZZ.out (show w1_.heap.size ≤ w2_.heap.size from hb.size))
  obtain ⟨A_T0, c_T0, ev_, hc_, hF_, hv_⟩ := val_of_S (e := 0) (base := w.heap.size) ho (by have h_ := ZZ.out; omega)
  subst ev_
  have HC_T0 := Aside0.mk hc_
  have T0 := Aside0.mk (show Kd.F k79 w2_ (In w1_.heap.size w2_.heap.size) A_T0 l1.length l1 from hF_)
  clear hc_ hF_ hv_ ho
  clear hb
  go_wp2_with (first | (go_at_call 28; refine hold_here ?_))
  refine hold_go ?_
  refine (spec_SetDigest.calls _ A_T0 c_T0 l1 q0 rb _ ?s1 ?s2 H_spec.out).mono ?_
  case s1 => exact Kd.F_now T0.out
  case s2 => exact HC_T0.out
  rintro e w3_ ⟨v, rfl, ho, hb⟩
  replace T0 := Aside0.mk (Kd.F_below T0.out hb)
  replace HB := Aside0.mk (below_step HB.out hb)
  replace ZZ := Aside0.mk (And.intro ZZ.out (show w2_.heap.size ≤ w3_.heap.size from hb.size))
  obtain ⟨A_W, c_W, ev_, hA_W⟩ := B_of_R (base := w.heap.size) ho (show w.heap.size ≤ w2_.heap.size from (by have h_ := ZZ.out; omega))
  subst ev_
  have W := Aside0.mk (show Kd.R (Kd.int .u8) 5 w3_ w.heap.size (In w2_.heap.size w3_.heap.size) (.slice A_W rb.length c_W) rb from hA_W)
  clear hA_W ho
  clear hb
  go_wp2_with (first | ((with_reducible refine gate_dst (N := 4) rfl ?_); refine hold_here ?_))
  refine hold_go ?_
  refine box_event (N := 4) (cs := #[.int .i64 0, .slice none 0 0]) (t := 55) ?hgb rfl ?hrb ?_
  case hgb => rfl
  case hrb => first | (go_simp; done) | (go_simp; rfl)
  intro g4_ hg w4_ hbox hb
  replace T0 := Aside0.mk (Kd.F_below T0.out hb)
  replace W := Aside0.mk (Kd.R_below W.out hb)
  replace HB := Aside0.mk (below_step HB.out hb)
  replace ZZ := Aside0.mk (And.intro ZZ.out (show w3_.heap.size ≤ w4_.heap.size from hb.size))
  have BK4 := Aside0.mk hbox
  replace ZZ := Aside0.mk (And.intro ZZ.out (And.intro (show g4_ = w3_.heap.size from hg) (show g4_ < w4_.heap.size from blk_lt hbox)))
  clear hb hbox hg
  go_wp2_with (first | ((with_reducible refine gate_store (t := 55) (p := 4) (v := .tmp 18) rfl ?_); refine hold_here ?_))
  refine hold_go ?_
  refine row_store rfl 55 (.tmp 4) (.tmp 18) rfl g4_ #[.int .i64 q0, .slice A_W rb.length c_W] rfl ?hy 55 _ BK4.out ?hi ?ho ?h1 rfl HB.out (show w.heap.size ≤ g4_ from (by have h_ := ZZ.out; omega)) ?_
  case hy => rfl
  case hi => kernel_rfl
  case ho => rfl
  case h1 => first | rfl | (simp [Value.oneCell']; done) | (go_simp; done)
  intro w5_ bo hk hb2
  clear BK4
  replace T0 := Aside0.mk (F_keptIn T0.out hk (by have h_ := ZZ.out; omega))
  replace W := Aside0.mk (B_kept W.out hk (by have h_ := ZZ.out; omega))
  replace HB := Aside0.mk hb2
  replace ZZ := Aside0.mk (And.intro ZZ.out (show w4_.heap.size ≤ w5_.heap.size from hk.1))
  have BK4 := Aside0.mk bo
  clear bo hk hb2
  clear T0 HC_T0
  go_wp2_with (first | (go_at_call 29; refine hold_here ?_))
  refine hold_go ?_
  refine (laws_toValidatorS.calls _ A0 c0 l0 l1 _ ?s1 ?s2 H_to.out).mono ?_
  case s1 => exact Kd.C_below HR0.out HB.out
  case s2 => exact HC0.out
  rintro e w6_ ⟨v, rfl, ho, hb⟩
  replace W := Aside0.mk (Kd.R_below W.out hb)
  replace BK4 := Aside0.mk (blk_below BK4.out hb)
  replace HB := Aside0.mk (below_step HB.out hb)
  replace ZZ := Aside0.mk (And.intro ZZ.out (show w5_.heap.size ≤ w6_.heap.size from hb.size))
  obtain ⟨A_X0, c_X0, ev_, hc_, hF_, hv_⟩ := val_of_S (e := 0) (base := w.heap.size) ho (by have h_ := ZZ.out; omega)
  subst ev_
  have HC_X0 := Aside0.mk hc_
  have X0 := Aside0.mk (show Kd.F k79 w6_ (In w5_.heap.size w6_.heap.size) A_X0 l1.length l1 from hF_)
  have XV := Aside0.mk (show AVo w.heap.size w6_ w5_.heap.size w6_.heap.size A_X0 l1 from hv_)
  clear hc_ hF_ hv_ ho
  clear hb
  go_wp2_with (first | (go_at_call 30; refine hold_here ?_))
  refine hold_go ?_
  refine (impl_SetDigest.calls _ A_X0 c_X0 l1 q0 rb _ ?s1 ?s2 H_impl.out).mono ?_
  case s1 => exact Kd.F_now X0.out
  case s2 => exact HC_X0.out
  rintro e w7_ ⟨v, rfl, ho, hb⟩
  replace W := Aside0.mk (Kd.R_below W.out hb)
  replace BK4 := Aside0.mk (blk_below BK4.out hb)
  replace X0 := Aside0.mk (Kd.F_below X0.out hb)
  replace XV := Aside0.mk (AVo.below XV.out hb)
  replace HB := Aside0.mk (below_step HB.out hb)
  replace ZZ := Aside0.mk (And.intro ZZ.out (show w6_.heap.size ≤ w7_.heap.size from hb.size))
  obtain ⟨A_G, c_G, ev_, hA_G⟩ := B_of_R (base := w.heap.size) ho (show w.heap.size ≤ w6_.heap.size from (by have h_ := ZZ.out; omega))
  subst ev_
  have G := Aside0.mk (show Kd.R (Kd.int .u8) 5 w7_ w.heap.size (In w6_.heap.size w7_.heap.size) (.slice A_G rb.length c_G) rb from hA_G)
  clear hA_G ho
  clear hb
  go_wp2_with (first | ((with_reducible refine gate_dst (N := 6) rfl ?_); refine hold_here ?_))
  refine hold_go ?_
  refine box_event (N := 6) (cs := #[.int .i64 0, .slice none 0 0]) (t := 55) ?hgb rfl ?hrb ?_
  case hgb => rfl
  case hrb => first | (go_simp; done) | (go_simp; rfl)
  intro g6_ hg w8_ hbox hb
  replace W := Aside0.mk (Kd.R_below W.out hb)
  replace BK4 := Aside0.mk (blk_below BK4.out hb)
  replace X0 := Aside0.mk (Kd.F_below X0.out hb)
  replace XV := Aside0.mk (AVo.below XV.out hb)
  replace G := Aside0.mk (Kd.R_below G.out hb)
  replace HB := Aside0.mk (below_step HB.out hb)
  replace ZZ := Aside0.mk (And.intro ZZ.out (show w7_.heap.size ≤ w8_.heap.size from hb.size))
  have BK6 := Aside0.mk hbox
  replace ZZ := Aside0.mk (And.intro ZZ.out (And.intro (show g6_ = w7_.heap.size from hg) (show g6_ < w8_.heap.size from blk_lt hbox)))
  clear hb hbox hg
  go_wp2_with (first | ((with_reducible refine gate_store (t := 55) (p := 6) (v := .tmp 22) rfl ?_); refine hold_here ?_))
  refine hold_go ?_
  refine row_store rfl 55 (.tmp 6) (.tmp 22) rfl g6_ #[.int .i64 q0, .slice A_G rb.length c_G] rfl ?hy 55 _ BK6.out ?hi ?ho ?h1 rfl HB.out (show w.heap.size ≤ g6_ from (by have h_ := ZZ.out; omega)) ?_
  case hy => rfl
  case hi => kernel_rfl
  case ho => rfl
  case h1 => first | rfl | (simp [Value.oneCell']; done) | (go_simp; done)
  intro w9_ bo hk hb2
  clear BK6
  replace W := Aside0.mk (B_kept W.out hk (by have h_ := ZZ.out; omega))
  replace BK4 := Aside0.mk (blk_keptIn BK4.out hk (by have h_ := ZZ.out; omega))
  replace X0 := Aside0.mk (F_keptIn X0.out hk (by have h_ := ZZ.out; omega))
  replace XV := Aside0.mk (AVo.kept XV.out hk (by have h_ := ZZ.out; omega))
  replace G := Aside0.mk (B_kept G.out hk (by have h_ := ZZ.out; omega))
  replace HB := Aside0.mk hb2
  replace ZZ := Aside0.mk (And.intro ZZ.out (show w8_.heap.size ≤ w9_.heap.size from hk.1))
  have BK6 := Aside0.mk bo
  clear bo hk hb2
  have hz_BK6_0 : w9_.cell? ⟨g6_, 0, none⟩ = some (.int .i64 q0) := (blk_cell BK6.out 0).trans rfl
  have hz_BK6_1 : w9_.cell? ⟨g6_, 1, none⟩ = some (.slice A_G rb.length c_G) := (blk_cell BK6.out 1).trans rfl
  have hz_BK4_0 : w9_.cell? ⟨g4_, 0, none⟩ = some (.int .i64 q0) := (blk_cell BK4.out 0).trans rfl
  have hz_BK4_1 : w9_.cell? ⟨g4_, 1, none⟩ = some (.slice A_W rb.length c_W) := (blk_cell BK4.out 1).trans rfl
  go_wp2_with (first | (go_at_call 31; refine hold_here ?_))
  refine hold_go ?_
  refine (laws_eqBytesResult.calls _ q0 A_G c_G rb q0 A_W c_W rb true _ ?s1 ?s2 ?s3 ?s4 H_eqr.out).mono ?_
  case s1 => exact (Kd.R_reads' G.out).2.2
  case s2 => exact (Kd.R_reads' G.out).2.1
  case s3 => exact (Kd.R_reads' W.out).2.2
  case s4 => exact (Kd.R_reads' W.out).2.1
  rintro e w10_ ⟨rfl, hb⟩
  replace W := Aside0.mk (Kd.R_below W.out hb)
  replace BK4 := Aside0.mk (blk_below BK4.out hb)
  replace X0 := Aside0.mk (Kd.F_below X0.out hb)
  replace XV := Aside0.mk (AVo.below XV.out hb)
  replace G := Aside0.mk (Kd.R_below G.out hb)
  replace BK6 := Aside0.mk (blk_below BK6.out hb)
  replace HB := Aside0.mk (below_step HB.out hb)
  clear hz_BK6_0 hz_BK6_1 hz_BK4_0 hz_BK4_1
  replace ZZ := Aside0.mk (And.intro ZZ.out (show w9_.heap.size ≤ w10_.heap.size from hb.size))
  clear hb
  go_wp2_with (first | (go_at_call 29; refine hold_here ?_))
  refine hold_go ?_
  refine (laws_toValidatorS.calls _ A0 c0 l0 l1 _ ?s1 ?s2 H_to.out).mono ?_
  case s1 => exact Kd.C_below HR0.out HB.out
  case s2 => exact HC0.out
  rintro e w11_ ⟨v, rfl, ho, hb⟩
  replace W := Aside0.mk (Kd.R_below W.out hb)
  replace BK4 := Aside0.mk (blk_below BK4.out hb)
  replace X0 := Aside0.mk (Kd.F_below X0.out hb)
  replace XV := Aside0.mk (AVo.below XV.out hb)
  replace G := Aside0.mk (Kd.R_below G.out hb)
  replace BK6 := Aside0.mk (blk_below BK6.out hb)
  replace HB := Aside0.mk (below_step HB.out hb)
  replace ZZ := Aside0.mk (And.intro ZZ.out (show w10_.heap.size ≤ w11_.heap.size from hb.size))
  obtain ⟨A_T1, c_T1, ev_, hc_, hF_, hv_⟩ := val_of_S (e := 0) (base := w.heap.size) ho (by have h_ := ZZ.out; omega)
  subst ev_
  have HC_T1 := Aside0.mk hc_
  have T1 := Aside0.mk (show Kd.F k79 w11_ (In w10_.heap.size w11_.heap.size) A_T1 l1.length l1 from hF_)
  clear hc_ hF_ hv_ ho
  clear hb
  go_wp2_with (first | (go_at_call 32; refine hold_here ?_))
  refine hold_go ?_
  refine (laws_eqValidatorS.calls _ A_X0 c_X0 l1 A_T1 c_T1 l1 true _ ?s1 ?s2 ?s3 ?s4 H_eqv.out).mono ?_
  case s1 => exact Kd.F_now X0.out
  case s2 => exact HC_X0.out
  case s3 => exact Kd.F_now T1.out
  case s4 => exact HC_T1.out
  rintro e w12_ ⟨rfl, hb⟩
  replace W := Aside0.mk (Kd.R_below W.out hb)
  replace BK4 := Aside0.mk (blk_below BK4.out hb)
  replace X0 := Aside0.mk (Kd.F_below X0.out hb)
  replace XV := Aside0.mk (AVo.below XV.out hb)
  replace G := Aside0.mk (Kd.R_below G.out hb)
  replace BK6 := Aside0.mk (blk_below BK6.out hb)
  replace T1 := Aside0.mk (Kd.F_below T1.out hb)
  replace HB := Aside0.mk (below_step HB.out hb)
  replace ZZ := Aside0.mk (And.intro ZZ.out (show w11_.heap.size ≤ w12_.heap.size from hb.size))
  clear hb
  clear T1 HC_T1
  clear X0
  go_wp2_with (first | (go_at_call 33; refine hold_here ?_))
  refine hold_go ?_
  refine (markValO_calls l1 1 (by decide) n0 H_n0.out H_p0.out w _ w5_.heap.size w6_.heap.size A_X0 c_X0 ?s1 ?s2 ?s3 HC_X0.out H_u0.out).mono ?_
  case s1 => exact HB.out
  case s2 => exact (by have h_ := ZZ.out; omega)
  case s3 => exact XV.out
  rintro e w13_ ⟨rfl, hb2, hk⟩
  clear XV
  replace W := Aside0.mk (B_kept W.out hk (by have h_ := ZZ.out; omega))
  replace BK4 := Aside0.mk (blk_keptIn BK4.out hk (by have h_ := ZZ.out; omega))
  replace G := Aside0.mk (B_kept G.out hk (by have h_ := ZZ.out; omega))
  replace BK6 := Aside0.mk (blk_keptIn BK6.out hk (by have h_ := ZZ.out; omega))
  replace HB := Aside0.mk hb2
  replace ZZ := Aside0.mk (And.intro ZZ.out (show w12_.heap.size ≤ w13_.heap.size from hk.1))
  clear hk hb2
  have hz_BK6_0 : w13_.cell? ⟨g6_, 0, none⟩ = some (.int .i64 q0) := (blk_cell BK6.out 0).trans rfl
  have hz_BK6_1 : w13_.cell? ⟨g6_, 1, none⟩ = some (.slice A_G rb.length c_G) := (blk_cell BK6.out 1).trans rfl
  have hz_BK4_0 : w13_.cell? ⟨g4_, 0, none⟩ = some (.int .i64 q0) := (blk_cell BK4.out 0).trans rfl
  have hz_BK4_1 : w13_.cell? ⟨g4_, 1, none⟩ = some (.slice A_W rb.length c_W) := (blk_cell BK4.out 1).trans rfl
  go_wp2_with (first | (go_at_call 31; refine hold_here ?_))
  refine hold_go ?_
  refine (laws_eqBytesResult.calls _ q0 A_G c_G rb q0 A_W c_W rb true _ ?s1 ?s2 ?s3 ?s4 H_eqr.out).mono ?_
  case s1 => exact (Kd.R_reads' G.out).2.2
  case s2 => exact (Kd.R_reads' G.out).2.1
  case s3 => exact (Kd.R_reads' W.out).2.2
  case s4 => exact (Kd.R_reads' W.out).2.1
  rintro e w14_ ⟨rfl, hb⟩
  replace W := Aside0.mk (Kd.R_below W.out hb)
  replace BK4 := Aside0.mk (blk_below BK4.out hb)
  replace G := Aside0.mk (Kd.R_below G.out hb)
  replace BK6 := Aside0.mk (blk_below BK6.out hb)
  replace HB := Aside0.mk (below_step HB.out hb)
  clear hz_BK6_0 hz_BK6_1 hz_BK4_0 hz_BK4_1
  replace ZZ := Aside0.mk (And.intro ZZ.out (show w13_.heap.size ≤ w14_.heap.size from hb.size))
  clear hb
  have hz_BK6_0 : w14_.cell? ⟨g6_, 0, none⟩ = some (.int .i64 q0) := (blk_cell BK6.out 0).trans rfl
  have hz_BK6_1 : w14_.cell? ⟨g6_, 1, none⟩ = some (.slice A_G rb.length c_G) := (blk_cell BK6.out 1).trans rfl
  have XO := Aside0.mk G.out
  go_wp2_with (first | (go_at_call 34; refine hold_here ?_))
  refine hold_go ?_
  refine (laws_markBytesResult.calls _ q0 (In w6_.heap.size w7_.heap.size) (.slice A_G rb.length c_G) rb 1 _ _ w _ ?s1 ?s2 H_mr.out).mono ?_
  case s1 => exact HB.out
  case s2 => exact G.out
  rintro e w15_ ⟨rfl, hR, hb2, hk⟩
  clear G
  replace W := Aside0.mk (B_kept W.out hk (by have h_ := ZZ.out; omega))
  replace BK4 := Aside0.mk (blk_keptIn BK4.out hk (by have h_ := ZZ.out; omega))
  replace BK6 := Aside0.mk (blk_keptIn BK6.out hk (by have h_ := ZZ.out; omega))
  replace HB := Aside0.mk hb2
  clear hz_BK6_0 hz_BK6_1
  replace ZZ := Aside0.mk (And.intro ZZ.out (show w14_.heap.size ≤ w15_.heap.size from hk.1))
  have G := Aside0.mk (B_tight XO.out hR)
  clear hR XO
  clear hk hb2
  have hz_BK6_0 : w15_.cell? ⟨g6_, 0, none⟩ = some (.int .i64 q0) := (blk_cell BK6.out 0).trans rfl
  have hz_BK6_1 : w15_.cell? ⟨g6_, 1, none⟩ = some (.slice A_G rb.length c_G) := (blk_cell BK6.out 1).trans rfl
  go_wp2_with (first | (go_at_call 35; refine hold_here ?_))
  refine hold_go ?_
  refine (heldBytesResult_len _ q0 A_G c_G mr rb.length H_lr.out 1 _ _ ?s1 ?s2 H_hr.out).mono ?_
  case s1 => exact (Kd.R_reads' G.out).2.2
  case s2 => exact (Kd.R_reads' G.out).2.1
  rintro e w16_ ⟨rfl, hb⟩
  replace W := Aside0.mk (Kd.R_below W.out hb)
  replace BK4 := Aside0.mk (blk_below BK4.out hb)
  replace BK6 := Aside0.mk (blk_below BK6.out hb)
  replace G := Aside0.mk (Kd.R_below G.out hb)
  replace HB := Aside0.mk (below_step HB.out hb)
  clear hz_BK6_0 hz_BK6_1
  replace ZZ := Aside0.mk (And.intro ZZ.out (show w15_.heap.size ≤ w16_.heap.size from hb.size))
  clear hb
  go_wp2_with (first | (go_at_call 29; refine hold_here ?_))
  refine hold_go ?_
  refine (laws_toValidatorS.calls _ A0 c0 l0 l1 _ ?s1 ?s2 H_to.out).mono ?_
  case s1 => exact Kd.C_below HR0.out HB.out
  case s2 => exact HC0.out
  rintro e w17_ ⟨v, rfl, ho, hb⟩
  replace W := Aside0.mk (Kd.R_below W.out hb)
  replace BK4 := Aside0.mk (blk_below BK4.out hb)
  replace BK6 := Aside0.mk (blk_below BK6.out hb)
  replace G := Aside0.mk (Kd.R_below G.out hb)
  replace HB := Aside0.mk (below_step HB.out hb)
  replace ZZ := Aside0.mk (And.intro ZZ.out (show w16_.heap.size ≤ w17_.heap.size from hb.size))
  obtain ⟨A_T2, c_T2, ev_, hc_, hF_, hv_⟩ := val_of_S (e := 0) (base := w.heap.size) ho (by have h_ := ZZ.out; omega)
  subst ev_
  have HC_T2 := Aside0.mk hc_
  have T2 := Aside0.mk (show Kd.F k79 w17_ (In w16_.heap.size w17_.heap.size) A_T2 l1.length l1 from hF_)
  clear hc_ hF_ hv_ ho
  clear hb
  go_wp2_with (first | (go_at_call 30; refine hold_here ?_))
  refine hold_go ?_
  refine (impl_SetDigest.calls _ A_T2 c_T2 l1 q0 rb _ ?s1 ?s2 H_impl.out).mono ?_
  case s1 => exact Kd.F_now T2.out
  case s2 => exact HC_T2.out
  rintro e w18_ ⟨v, rfl, ho, hb⟩
  replace W := Aside0.mk (Kd.R_below W.out hb)
  replace BK4 := Aside0.mk (blk_below BK4.out hb)
  replace BK6 := Aside0.mk (blk_below BK6.out hb)
  replace G := Aside0.mk (Kd.R_below G.out hb)
  replace T2 := Aside0.mk (Kd.F_below T2.out hb)
  replace HB := Aside0.mk (below_step HB.out hb)
  replace ZZ := Aside0.mk (And.intro ZZ.out (show w17_.heap.size ≤ w18_.heap.size from hb.size))
  obtain ⟨A_Hh, c_Hh, ev_, hA_Hh⟩ := B_of_R (base := w.heap.size) ho (show w.heap.size ≤ w17_.heap.size from (by have h_ := ZZ.out; omega))
  subst ev_
  have Hh := Aside0.mk (show Kd.R (Kd.int .u8) 5 w18_ w.heap.size (In w17_.heap.size w18_.heap.size) (.slice A_Hh rb.length c_Hh) rb from hA_Hh)
  clear hA_Hh ho
  clear hb
  go_wp2_with (first | ((with_reducible refine gate_dst (N := 10) rfl ?_); refine hold_here ?_))
  refine hold_go ?_
  refine box_event (N := 10) (cs := #[.int .i64 0, .slice none 0 0]) (t := 55) ?hgb rfl ?hrb ?_
  case hgb => rfl
  case hrb => first | (go_simp; done) | (go_simp; rfl)
  intro g10_ hg w19_ hbox hb
  replace W := Aside0.mk (Kd.R_below W.out hb)
  replace BK4 := Aside0.mk (blk_below BK4.out hb)
  replace BK6 := Aside0.mk (blk_below BK6.out hb)
  replace G := Aside0.mk (Kd.R_below G.out hb)
  replace T2 := Aside0.mk (Kd.F_below T2.out hb)
  replace Hh := Aside0.mk (Kd.R_below Hh.out hb)
  replace HB := Aside0.mk (below_step HB.out hb)
  replace ZZ := Aside0.mk (And.intro ZZ.out (show w18_.heap.size ≤ w19_.heap.size from hb.size))
  have BK10 := Aside0.mk hbox
  replace ZZ := Aside0.mk (And.intro ZZ.out (And.intro (show g10_ = w18_.heap.size from hg) (show g10_ < w19_.heap.size from blk_lt hbox)))
  clear hb hbox hg
  go_wp2_with (first | ((with_reducible refine gate_store (t := 55) (p := 10) (v := .tmp 56) rfl ?_); refine hold_here ?_))
  refine hold_go ?_
  refine row_store rfl 55 (.tmp 10) (.tmp 56) rfl g10_ #[.int .i64 q0, .slice A_Hh rb.length c_Hh] rfl ?hy 55 _ BK10.out ?hi ?ho ?h1 rfl HB.out (show w.heap.size ≤ g10_ from (by have h_ := ZZ.out; omega)) ?_
  case hy => rfl
  case hi => kernel_rfl
  case ho => rfl
  case h1 => first | rfl | (simp [Value.oneCell']; done) | (go_simp; done)
  intro w20_ bo hk hb2
  clear BK10
  replace W := Aside0.mk (B_kept W.out hk (by have h_ := ZZ.out; omega))
  replace BK4 := Aside0.mk (blk_keptIn BK4.out hk (by have h_ := ZZ.out; omega))
  replace BK6 := Aside0.mk (blk_keptIn BK6.out hk (by have h_ := ZZ.out; omega))
  replace G := Aside0.mk (B_kept G.out hk (by have h_ := ZZ.out; omega))
  replace T2 := Aside0.mk (F_keptIn T2.out hk (by have h_ := ZZ.out; omega))
  replace Hh := Aside0.mk (B_kept Hh.out hk (by have h_ := ZZ.out; omega))
  replace HB := Aside0.mk hb2
  replace ZZ := Aside0.mk (And.intro ZZ.out (show w19_.heap.size ≤ w20_.heap.size from hk.1))
  have BK10 := Aside0.mk bo
  clear bo hk hb2
  have hz_BK10_0 : w20_.cell? ⟨g10_, 0, none⟩ = some (.int .i64 q0) := (blk_cell BK10.out 0).trans rfl
  have hz_BK10_1 : w20_.cell? ⟨g10_, 1, none⟩ = some (.slice A_Hh rb.length c_Hh) := (blk_cell BK10.out 1).trans rfl
  have hz_BK4_0 : w20_.cell? ⟨g4_, 0, none⟩ = some (.int .i64 q0) := (blk_cell BK4.out 0).trans rfl
  have hz_BK4_1 : w20_.cell? ⟨g4_, 1, none⟩ = some (.slice A_W rb.length c_W) := (blk_cell BK4.out 1).trans rfl
  go_wp2_with (first | (go_at_call 31; refine hold_here ?_))
  refine hold_go ?_
  refine (laws_eqBytesResult.calls _ q0 A_Hh c_Hh rb q0 A_W c_W rb true _ ?s1 ?s2 ?s3 ?s4 H_eqr.out).mono ?_
  case s1 => exact (Kd.R_reads' Hh.out).2.2
  case s2 => exact (Kd.R_reads' Hh.out).2.1
  case s3 => exact (Kd.R_reads' W.out).2.2
  case s4 => exact (Kd.R_reads' W.out).2.1
  rintro e w21_ ⟨rfl, hb⟩
  replace W := Aside0.mk (Kd.R_below W.out hb)
  replace BK4 := Aside0.mk (blk_below BK4.out hb)
  replace BK6 := Aside0.mk (blk_below BK6.out hb)
  replace G := Aside0.mk (Kd.R_below G.out hb)
  replace T2 := Aside0.mk (Kd.F_below T2.out hb)
  replace Hh := Aside0.mk (Kd.R_below Hh.out hb)
  replace BK10 := Aside0.mk (blk_below BK10.out hb)
  replace HB := Aside0.mk (below_step HB.out hb)
  clear hz_BK10_0 hz_BK10_1 hz_BK4_0 hz_BK4_1
  replace ZZ := Aside0.mk (And.intro ZZ.out (show w20_.heap.size ≤ w21_.heap.size from hb.size))
  clear hb
  have hz_BK6_0 : w21_.cell? ⟨g6_, 0, none⟩ = some (.int .i64 q0) := (blk_cell BK6.out 0).trans rfl
  have hz_BK6_1 : w21_.cell? ⟨g6_, 1, none⟩ = some (.slice A_G rb.length c_G) := (blk_cell BK6.out 1).trans rfl
  go_wp2_with (first | (go_at_call 35; refine hold_here ?_))
  refine hold_go ?_
  refine (heldBytesResult_len _ q0 A_G c_G mr rb.length H_lr.out 1 _ _ ?s1 ?s2 H_hr.out).mono ?_
  case s1 => exact (Kd.R_reads' G.out).2.2
  case s2 => exact (Kd.R_reads' G.out).2.1
  rintro e w22_ ⟨rfl, hb⟩
  replace W := Aside0.mk (Kd.R_below W.out hb)
  replace BK4 := Aside0.mk (blk_below BK4.out hb)
  replace BK6 := Aside0.mk (blk_below BK6.out hb)
  replace G := Aside0.mk (Kd.R_below G.out hb)
  replace T2 := Aside0.mk (Kd.F_below T2.out hb)
  replace Hh := Aside0.mk (Kd.R_below Hh.out hb)
  replace BK10 := Aside0.mk (blk_below BK10.out hb)
  replace HB := Aside0.mk (below_step HB.out hb)
  clear hz_BK6_0 hz_BK6_1
  replace ZZ := Aside0.mk (And.intro ZZ.out (show w21_.heap.size ≤ w22_.heap.size from hb.size))
  clear hb
  go_wp2
  go_ret
  exact ⟨rfl, HB.out⟩
set_option maxHeartbeats 80000000 in
set_option maxRecDepth 100000 in
theorem law_SetDigest_big (A0 : Option Addr) (c0 : Nat) (l0 : List S76) (w : World) (hr0 : Kd.C k76 w A0 l0.length l0) (hc0 : l0.length ≤ c0) (ksz : Nat) (sz : Int) (h_sz : laws_szValidatorS.f ksz l0 1048576 = some sz) (h_szc : sz < 0) :
    Calls Try.prog 6 #[.slice A0 l0.length c0] w fun e w' => e = .returned (.bool true) ∧ Below w.heap.size w w' := by
  have hu0_ := Try.underlying55
  have HR0 := Aside0.mk hr0
  have HC0 := Aside0.mk hc0
  have H_sz := Aside0.mk h_sz
  have HB := Aside0.mk (Below.refl w.heap.size w)
  have ZZ := Aside0.mk (Nat.le_refl w.heap.size)
  have csz_ : decide (sz < 0) = true := decide_eq_true h_szc
  clear hr0 hc0 h_sz
  go_enter Try.func6, Try.ntmps6
  go_wp2_with (first | (go_at_call 27; refine hold_here ?_))
  refine hold_go ?_
  refine (laws_szValidatorS.calls _ A0 c0 l0 1048576 sz _ ?s1 ?s2 H_sz.out).mono ?_
  case s1 => exact Kd.C_below HR0.out HB.out
  case s2 => exact HC0.out
  rintro e w1_ ⟨rfl, hb⟩
  replace HB := Aside0.mk (below_step HB.out hb)
  replace ZZ := Aside0.mk (And.intro ZZ.out (show w.heap.size ≤ w1_.heap.size from hb.size))
  clear hb
  go_wp2
  go_ret
  exact ⟨rfl, HB.out⟩

end Go.Proofs.Ytcgeajjkfoignaa.S

/- DIRECT: the law FnExactSetDigest returns true at every argument: the program's SetDigest and the reference's answer alike, in new memory. No condition. -/
set_option linter.unusedVariables false
namespace Go.Proofs.Ytcgeajjkfoignaa.S
open Go.RowKit Go.Proofs.YtcgeajjkfoignaaW.PrintWords Go.Proofs.YtcgeajjkfoignaaW.PrintLast Go.Proofs.YtcgeajjkfoignaaW.PrintMore Go.Proofs.Ytcgeajjkfoignaa.Base Go.Proofs.Ytcgeajjkfoignaa.Sha

/-- The words of validators. -/
def valW (l : List S79) : List (List Int) := (l.map fun v => [v.f0, num7 v.f1]).flatten
theorem valW_step (l : List S79) (i : Nat) (h : i < l.length) : valW (l.take (i + 1)) = valW (l.take i) ++ [l[i].f0, num7 l[i].f1] := by
  unfold valW
  rw [List.take_succ_eq_append_getElem h, List.map_append, List.flatten_append]
  simp
theorem valW_len : ∀ (l : List S79), (valW l).length = 2 * l.length
  | [] => rfl
  | v :: l => by
    have := valW_len l
    unfold valW at *
    simp only [List.map_cons, List.flatten_cons, List.length_append, List.length_cons, List.length_nil] at *
    omega
theorem valW_mem {l : List S79} (h : ∀ v ∈ l, v.f0.length = 32 ∧ Byt v.f0) : ∀ w ∈ valW l, w.length ≤ 32 ∧ Byt w := by
  intro w hw
  unfold valW at hw
  obtain ⟨x, hx, hwx⟩ := List.mem_flatten.1 hw
  obtain ⟨v, hv, rfl⟩ := List.mem_map.1 hx
  simp only [List.mem_cons, List.not_mem_nil, or_false] at hwx
  rcases hwx with rfl | rfl
  · exact ⟨by rw [(h v hv).1]; omega, (h v hv).2⟩
  · exact ⟨by rw [num7_length]; omega, num7_byt _⟩
def setDigV (l : List S79) : List Int := tg (⟨#[115, 101, 116]⟩ : ByteArray) (packL (valW l))
theorem setDig_ok {l : List S79} (hl : l.length ≤ 5) (h : ∀ v ∈ l, v.f0.length = 32 ∧ Byt v.f0) : (packL (valW l)).length ≤ 330 ∧ Byt (packL (valW l)) ∧ (valW l).length ≤ 10 := by
  have h1 := valW_len l
  have h2 := packL_len (m := 32) (fun w hw => (valW_mem h w hw).1)
  exact ⟨by omega, packLB_byt _ (fun w hw => (valW_mem h w hw).2), by omega⟩
theorem spec_setDig_l0 (l : List S79) (hl : l.length ≤ 5) (h : ∀ v ∈ l, v.f0.length = 32 ∧ Byt v.f0) : ∀ (d i : Nat), i + d = l.length → Ev (fun k => spec_l7Digest.l0 k l (valW (l.take i)) (i : Int)) (setDigV l) := by
  obtain ⟨g1, g2, g3⟩ := setDig_ok hl h
  have h3 : (⟨#[115, 101, 116]⟩ : ByteArray).size = 3 := rfl
  intro d
  induction d with
  | zero =>
    intro i hi
    rw [List.take_of_length_le (by omega)]
    exact ev_step (fun k => spec_l7Digest.l0.eq_2 _ _ _ _) (ev_neg (by omega) (ev_bind (l1Pack_ev (valW l) (by omega) (by omega)) (ev_bind (ev_now (spec_tag g2 (by omega))) (ev_now rfl))))
  | succ d ih =>
    intro i hi
    have hlt : i < l.length := by omega
    have hlen := valW_len (l.take i)
    rw [List.length_take] at hlen
    refine ev_step (fun k => spec_l7Digest.l0.eq_2 _ _ _ _) (ev_pos (by omega) (ev_pos (by omega) ?_))
    rw [rdVB l i hlt]
    refine ev_bind (l1Put_ev _) (ev_bind (ev_now rfl) (ev_pos (by simp only [List.length_cons, List.length_nil]; omega) ?_))
    rw [w64s (by omega), ← valW_step l i hlt]
    exact ih (i + 1) (by omega)
theorem impl_setDig_l0 (l : List S79) (hl : l.length ≤ 5) (h : ∀ v ∈ l, v.f0.length = 32 ∧ Byt v.f0) : ∀ (d i : Nat), i + d = l.length → Ev (fun k => impl_setDigest.l0 k (valW (l.take i)) l (l.length : Int) (i : Int)) (setDigV l) := by
  obtain ⟨g1, g2, g3⟩ := setDig_ok hl h
  have h3 : (⟨#[115, 101, 116]⟩ : ByteArray).size = 3 := rfl
  intro d
  induction d with
  | zero =>
    intro i hi
    rw [List.take_of_length_le (by omega)]
    refine ev_step (fun k => impl_setDigest.l0.eq_2 _ _ _ _ _) (ev_neg (by omega) (ev_bind (a := packL (valW l)) ?_ (ev_bind (ev_now (impl_tag1 g2 (by omega))) (ev_now rfl))))
    unfold impl_pack.f
    have hp : packedV (valW l) = (packL (valW l), true) := by
      unfold packedV
      rw [if_neg (by omega), if_pos ⟨fun w hw => by have := (valW_mem h w hw).1; omega, by omega⟩]
    refine ev_bind (packed_ev (valW l) (fun w hw => by have := (valW_mem h w hw).1; omega)) ?_
    rw [hp]
    exact ev_now rfl
  | succ d ih =>
    intro i hi
    have hlt : i < l.length := by omega
    have hlen := valW_len (l.take i)
    rw [List.length_take] at hlen
    refine ev_step (fun k => impl_setDigest.l0.eq_2 _ _ _ _ _) (ev_pos (by omega) (ev_pos (by omega) (ev_pos (by omega) ?_)))
    rw [rdVB l i hlt]
    refine ev_bind (number_ev _) (ev_bind (ev_now rfl) (ev_pos (by simp only [List.length_cons, List.length_nil]; omega) ?_))
    rw [w64s (by omega), ← valW_step l i hlt]
    exact ih (i + 1) (by omega)
theorem setDigest_ex (l : List S79) (hf : ∀ v ∈ l, v.f0.length ≤ 1048576 ∧ Byt v.f0) : ∃ q r, r.length ≤ 32 ∧ Ev (fun k => spec_SetDigest.f k l) (q, r) ∧ Ev (fun k => impl_SetDigest.f k l) (q, r) := by
  obtain ⟨q, h0, hs, hi⟩ := setFault_ev l hf
  unfold spec_SetDigest.f impl_SetDigest.f
  by_cases c : q = 0
  · obtain ⟨h1, h2⟩ := h0 c
    have hv : ∀ v ∈ l, v.f0.length = 32 ∧ Byt v.f0 := fun v hm => ⟨(h2 v hm).2.2, (hf v hm).2⟩
    refine ⟨0, setDigV l, Nat.le_of_eq (tg_length _ _), ev_bind hs (ev_pos c (ev_bind ?_ (ev_now rfl))), ev_bind hi (ev_pos c (ev_bind ?_ (ev_now rfl)))⟩
    · exact spec_setDig_l0 l h1 hv l.length 0 (by omega)
    · exact impl_setDig_l0 l h1 hv l.length 0 (by omega)
  · exact ⟨q, [], Nat.zero_le _, ev_bind hs (ev_neg c (ev_now rfl)), ev_bind hi (ev_neg c (ev_now rfl))⟩
theorem offv_small : ∀ (l : List S79), (∀ v ∈ l, v.f0.length ≤ 1048576) → offv l l.length ≤ l.length * 1048577 := by
  intro l h
  unfold offv
  rw [List.take_of_length_le (Nat.le_refl _)]
  induction l with
  | nil => simp
  | cons v l ih =>
    have h1 := h v List.mem_cons_self
    have h2 := ih (fun y hy => h y (List.mem_cons_of_mem _ hy))
    rw [List.map_cons, List.sum_cons, List.length_cons, Nat.succ_mul]
    omega
end Go.Proofs.Ytcgeajjkfoignaa.S
namespace Go.Proofs.Ytcgeajjkfoignaa.Pure
open Go Go.RowKit Go.Proofs.Ytcgeajjkfoignaa.S Go.Proofs.YtcgeajjkfoignaaW.PrintWords Go.Proofs.YtcgeajjkfoignaaW.PrintLast Go.Proofs.YtcgeajjkfoignaaW.PrintMore Go.Proofs.Ytcgeajjkfoignaa.Base

theorem FnExactSetDigest (l0 : List S76) (hl : l0.length ≤ 9223372036854775807) (hq : ∀ y ∈ l0, (y.f0.length ≤ 9223372036854775807 ∧ ∀ y3 ∈ y.f0, (Lit.int .u8 y3).wf = true) ∧ ((Lit.int .i64 y.f1).wf = true)) (A0 : Option Addr) (c0 : Nat) (w : World) (hr0 : Kd.C k76 w A0 l0.length l0) (hc0 : l0.length ≤ c0) :
    Calls Try.prog 6 #[.slice A0 l0.length c0] w fun e w' => e = .returned (.bool true) ∧ Below w.heap.size w w' := by
  obtain ⟨sz, hsz, hz⟩ := szValidatorS_ex l0 hl (fun y hy => (hq y hy).1.1)
  obtain ⟨ksz, hsz⟩ := hsz.rounds
  by_cases c : sz < 0
  · exact law_SetDigest_big A0 c0 l0 w hr0 hc0 ksz sz hsz c
  obtain ⟨h1, h2⟩ := hz c
  have ht := toValidatorS_ev l0 h1 h2
  have hm : ∀ v ∈ l0.map toV, v.f0.length ≤ 1048576 ∧ Byt v.f0 := fun y hy => by
    obtain ⟨z, hz, rfl⟩ := List.mem_map.1 hy
    exact ⟨h2 z hz, byt_of_wf (hq z hz).1.2⟩
  have hlm : (l0.map toV).length ≤ 1048576 := by simpa using h1
  generalize l0.map toV = l1 at *
  have he := eqValidatorS_ev l1 hlm (fun y hy => (hm y hy).1)
  obtain ⟨q, rb, hn, hs, hi⟩ := setDigest_ex l1 hm
  have ho := offv_small l1 (fun v hv => (hm v hv).1)
  obtain ⟨kt, ht⟩ := ht.rounds
  obtain ⟨ke, he⟩ := he.rounds
  obtain ⟨ks, hs⟩ := hs.rounds
  obtain ⟨ki, hi⟩ := hi.rounds
  obtain ⟨kr, her⟩ := (eqBytesResult_ev q rb (by omega)).rounds
  obtain ⟨km, hm2⟩ := (markBytesResult_ev q rb (by omega)).rounds
  obtain ⟨kh, hh⟩ := (heldBytesResult_ev q rb.length (by omega)).rounds
  have hbig : (offv l1 l1.length : Int) ≤ 1048576 * 1048577 := by
    have : l1.length * 1048577 ≤ 1048576 * 1048577 := Nat.mul_le_mul_right _ hlm
    omega
  exact law_SetDigest A0 c0 l0 l1 q rb (offv l1 l1.length) (marked 1 rb.length) sz w hr0 hc0 kr ke kh ki km ks ksz kt hsz c ht he hs hi her rfl (by omega) (by omega) hm2 (marked_length 1 rb.length) hh
end Go.Proofs.Ytcgeajjkfoignaa.Pure
