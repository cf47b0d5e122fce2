/- Arguments with depth: what the form's reading of a slice of slices, a struct, a slice of structs says in the words of the walks. No condition. -/
import Derived.Test.YtchmaojmknfbpaaBase
import Derived.ChangeArms
import Derived.ChangeSlices
import Derived.DataReads
import Derived.DataElems
import Derived.WideShapes
set_option linter.unusedVariables false
namespace Go.Proofs.Ytchmaojmknfbpaa.Deep
open Go.RowKit Go.Proofs.YtchmaojmknfbpaaW.PrintWords Go.Proofs.YtchmaojmknfbpaaW.PrintLast Go.Proofs.YtchmaojmknfbpaaW.PrintMore Go.Proofs.Ytchmaojmknfbpaa.Base

variable {P : Program} {w : World}
/-- What is read of a type's cells is told by d, and is as Q says. -/
def Opens (P : Program) (w : World) (t : TypeId) {α : Type} (d : Kd α) (Q : α → Prop) : Prop :=
  ∀ (H : Type) (enc : TypeId × Value → H) (fuel : Nat) (cs : List Value) (x : DataW H × List MemPlace), DataW.trod enc P w 0 (fun _ => true) true fuel t cs = some x → ∃ y : α, d.K w y cs ∧ Q y
theorem opens_int {t : TypeId} {k : IntKind} (ht : P.underlying t = some (.int k)) : Opens P w t (Kd.int k) (fun y => (Lit.int k y).wf = true) := by
  intro H enc fuel cs x h
  cases fuel with
  | zero => simp [DataW.trod] at h
  | succ n =>
    unfold DataW.trod at h
    rw [ht] at h
    split at h <;> simp_all
    obtain ⟨⟨e, hw⟩, _⟩ := h
    subst e
    exact ⟨_, rfl, hw⟩
/-- From 'for every i < n there is one' to a list. -/
theorem list_of {α : Type} {R : Nat → α → Prop} : ∀ n : Nat, (∀ i, i < n → ∃ y, R i y) → ∃ l : List α, l.length = n ∧ ∀ (i : Nat) (y : α), l[i]? = some y → R i y
  | 0, _ => ⟨[], rfl, fun i y h => by simp at h⟩
  | n + 1, h => by
    obtain ⟨l, hl, hR⟩ := list_of n (fun i hi => h i (by omega))
    obtain ⟨y, hy⟩ := h n (by omega)
    refine ⟨l ++ [y], by simp [hl], fun i z hz => ?_⟩
    rcases Nat.lt_or_ge i n with hi | hi
    · rw [List.getElem?_append_left (by omega)] at hz
      exact hR i z hz
    · rw [List.getElem?_append_right (by omega)] at hz
      have e : i = n := by
        have := (List.getElem?_eq_some_iff.1 hz).1
        simp at this
        omega
      subst e
      rw [show i - l.length = 0 by omega] at hz
      simp at hz
      rw [← hz]
      exact hy
/-- The rows of a slice's elements. -/
theorem row_of {α : Type} {d : Kd α} {Q : α → Prop} {t e : TypeId} (ht : P.underlying t = some (.slice e)) (hs : P.cellsOf e = d.sz) (he : Opens P w e d Q)
    {H : Type} {enc : TypeId × Value → H} {fuel : Nat} {cs : List Value} {x : DataW H × List MemPlace} (h : DataW.trod enc P w 0 (fun _ => true) true fuel t cs = some x) :
    ∃ (A : Option Addr) (len cap : Nat) (l : List α), cs = [.slice A len cap] ∧ l.length = len ∧ len ≤ cap ∧ d.C w A len l ∧ ∀ y ∈ l, Q y := by
  rcases DataW.trod_slice ht h with ⟨rfl, _⟩ | ⟨a, len, cap, elems, rest, n, _, rfl, rfl, hb, hl, hm, hlen, hel, hsp, hns⟩
  · exact ⟨none, 0, 0, [], rfl, rfl, Nat.le_refl _, ⟨rfl, by omega, fun h => absurd h (by omega)⟩, fun y hy => by cases hy⟩
  · obtain ⟨l, hll, hR⟩ := list_of (R := fun i y => Q y ∧ ∃ c, c.length = d.sz ∧ d.K w y c ∧ ∀ (j : Nat) u, c[j]? = some u → w.cell? (a.add (i * d.sz + j)) = some u) len (fun i hi => by
      have h0 := hel i hi
      rw [List.getElem?_eq_getElem (show i < elems.length by omega), Option.bind_eq_some_iff] at h0
      obtain ⟨c, hc, hd⟩ := h0
      obtain ⟨_, hcl, hcc⟩ := World.cells?_some hc
      obtain ⟨y, hK, hQ⟩ := he H enc n c _ hd
      refine ⟨y, hQ, c, by rw [hcl, hs], hK, fun j u hu => ?_⟩
      have hj : j < P.cellsOf e := by
        have := (List.getElem?_eq_some_iff.1 hu).1
        omega
      have h2 := hcc j hj
      rw [hu, Addr.add_add, hs] at h2
      exact h2)
    refine ⟨some a, len, cap, l, rfl, hll, hl, ⟨hll, by simp only [maxLen] at hm; omega, fun _ => ⟨a, rfl, fun j y hj => ?_⟩⟩, fun y hy => ?_⟩
    · obtain ⟨_, c, h1, h2, h3⟩ := hR j y hj
      exact ⟨c, h1, h2, h3⟩
    · obtain ⟨i, hi⟩ := List.mem_iff_getElem?.1 hy
      exact (hR i y hi).1
/-- Fields, one behind the other, from a place on. -/
def OpensF (P : Program) (w : World) (off : Nat) (fs : List Field) {α : Type} (d : Kd α) (Q : α → Prop) : Prop :=
  ∀ (H : Type) (enc : TypeId × Value → H) (n : Nat) (cs : List Value) (xs : List (DataW H × List MemPlace)), cs.length = off + d.sz → xs.length = fs.length →
    (∀ (i : Nat) (f : Field), fs[i]? = some f → DataW.trod enc P w 0 (fun _ => true) true n f.type ((cs.drop f.offset).take (P.cellsOf f.type)) = xs[i]?) → ∃ y : α, d.K w y (cs.drop off) ∧ Q y
end Go.Proofs.Ytchmaojmknfbpaa.Deep
