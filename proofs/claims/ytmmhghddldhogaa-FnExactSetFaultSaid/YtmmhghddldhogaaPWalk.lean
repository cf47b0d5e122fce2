/- Loops over a slice in one lemma each: copied element by element, counted, held. Nothing of the program stands in this text. -/
import Derived.Test.YtmmhghddldhogaaBase
set_option linter.unusedVariables false
namespace Go.Proofs.Ytmmhghddldhogaa.Base
open Go.RowKit Go.Proofs.YtmmhghddldhogaaW.PrintWords Go.Proofs.YtmmhghddldhogaaW.PrintLast Go.Proofs.YtmmhghddldhogaaW.PrintMore

/-- From place i on to the end. -/
theorem ev_walk {α : Type} {n : Nat} {L : Nat → Int → Option α} {r : α} (hstep : ∀ i : Nat, i < n → Ev (fun k => L k ((i + 1 : Nat) : Int)) r → Ev (fun k => L k (i : Int)) r) (hend : Ev (fun k => L k (n : Int)) r) : ∀ (d i : Nat), i + d = n → Ev (fun k => L k (i : Int)) r := by
  intro d
  induction d with
  | zero => intro i hi; rw [show i = n by omega]; exact hend
  | succ d ih => intro i hi; exact hstep i (by omega) (ih (i + 1) (by omega))
/-- Each element's copy at its place. -/
theorem ev_copy {α β : Type} {l : List α} {g : α → β} {L : Nat → List β → Int → Option (List β)} (hstep : ∀ (i : Nat) (x : List β) (h : i < l.length), x.length = l.length → Ev (fun k => L k (x.set i (g l[i])) ((i + 1 : Nat) : Int)) (l.map g) → Ev (fun k => L k x (i : Int)) (l.map g))
    (hend : ∀ x : List β, Ev (fun k => L k x (l.length : Int)) x) : ∀ (d i : Nat) (x : List β), i + d = l.length → x.length = l.length → (∀ j, j < i → x[j]? = (l.map g)[j]?) → Ev (fun k => L k x (i : Int)) (l.map g) := by
  intro d
  induction d with
  | zero =>
    intro i x hi hx hj
    have e : x = l.map g := fill_all (by simpa using hx) (fun j h => hj j (by simp at h; omega))
    have h := hend x
    rw [show l.length = i by omega] at h
    rw [← e]
    exact h
  | succ d ih =>
    intro i x hi hx hj
    refine hstep i x (by omega) hx (ih (i + 1) _ (by omega) (by simpa using hx) ?_)
    intro j hj'
    rw [List.getElem?_set]
    by_cases e : i = j
    · subst e
      rw [if_pos rfl, if_pos (by omega), List.getElem?_map, List.getElem?_eq_getElem (by omega)]
      rfl
    · rw [if_neg e]
      exact hj j (by omega)
end Go.Proofs.Ytmmhghddldhogaa.Base
