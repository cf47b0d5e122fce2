import Derived.Test.YtmmhghddldhogaaBase
import Derived.Test.YtmmhghddldhogaaSxSpecL1
import Derived.Test.YtmmhghddldhogaaSxImplPackedY
import Derived.Test.YtmmhghddldhogaaSxImplUnpackWords
import Derived.Test.YtmmhghddldhogaaSxSpecUnpackWords
import Derived.Test.YtmmhghddldhogaaSxBytesClone
import Derived.Test.YtmmhghddldhogaaSxSpecTree
import Derived.Test.YtmmhghddldhogaaSxImplTree
import Derived.Test.YtmmhghddldhogaaSxImplSmall
import Derived.Test.YtmmhghddldhogaaSxSpecL1
import Derived.Test.YtmmhghddldhogaaSxLawsHelp
import Derived.Test.YtmmhghddldhogaaSxLawsHelp
import Derived.Test.YtmmhghddldhogaaSxLawsHelpSS
import Derived.Test.YtmmhghddldhogaaSxImplIsProofY
import Derived.Test.YtmmhghddldhogaaSxSpecL3RightY
import Derived.Test.YtmmhghddldhogaaSxImplPathLength
import Derived.Test.YtmmhghddldhogaaSxSpecPathLength
import Derived.Test.YtmmhghddldhogaaSxImplAreDigestsY
import Derived.Test.YtmmhghddldhogaaSxLawsHelp
import Derived.Test.YtmmhghddldhogaaSx0
import Derived.WalkSpells
import Derived.Laws.Tables
import Derived.Laws.CopyOwn
import Derived.Test.YtmmhghddldhogaaSxImplUnpackWords
import Derived.Test.YtmmhghddldhogaaSxImplIsProofY
import Derived.Test.YtmmhghddldhogaaSxSpecUnpackWords
import Derived.Test.YtmmhghddldhogaaSxSpecL3RightY
import Derived.Test.YtmmhghddldhogaaSxLawsHelpSS
import Derived.Test.YtmmhghddldhogaaSxLawsHelp
import Derived.Test.YtmmhghddldhogaaSxLawsHelp
import Derived.Test.YtmmhghddldhogaaSxLawsHeldProofResultY
import Derived.Test.YtmmhghddldhogaaSxLawsHelp
import Derived.Test.YtmmhghddldhogaaSxLawsEqProofResultY
import Derived.Test.YtmmhghddldhogaaSxLawsHeldProofResultY
import Derived.Test.YtmmhghddldhogaaSxLawsEqProofResultY
import Derived.Test.YtmmhghddldhogaaSxLawsHeldProofResultY
import Derived.Test.YtmmhghddldhogaaSxLawsHelpSS
/- Words behind one another, each with its length ahead: what the program's packed and the reference's l1Pack come to. -/
set_option linter.unusedVariables false
namespace Go.Proofs.Ytmmhghddldhogaa.S
open Go.RowKit Go.Proofs.YtmmhghddldhogaaW.PrintWords Go.Proofs.YtmmhghddldhogaaW.PrintLast Go.Proofs.YtmmhghddldhogaaW.PrintMore Go.Proofs.Ytmmhghddldhogaa.Base

/-- Words behind one another, each with its length ahead. -/
def packL : List (List Int) → List Int
  | [] => []
  | w :: ws => (((w.length : Int) % 256) :: w) ++ packL ws
theorem packL_cons_length (w : List Int) (ws : List (List Int)) : (packL (w :: ws)).length = 1 + w.length + (packL ws).length := by
  simp [packL]
  omega
theorem rdW (l : List (List Int)) (i : Nat) (h : i < l.length) : rd_L2 l (i : Int) = l[i] := by
  unfold rd_L2
  simp [List.getD_eq_getElem?_getD, List.getElem?_eq_getElem h]
theorem l1Pack_l0 (ws : List (List Int)) (hw : ws.length ≤ 1048576) : ∀ (d i : Nat) (y : List Int), i + d = ws.length → y.length + (packL (ws.drop i)).length < 140737488355328 → Ev (fun k => spec_l1Pack.l0 k ws y (i : Int)) (y ++ packL (ws.drop i)) := by
  intro d
  induction d with
  | zero =>
    intro i y hi hl
    rw [List.drop_of_length_le (by omega)]
    exact ev_step (fun k => spec_l1Pack.l0.eq_2 _ _ _ _) (ev_neg (by omega) (ev_now (by simp [packL])))
  | succ d ih =>
    intro i y hi hl
    rw [List.drop_eq_getElem_cons (by omega)] at hl ⊢
    rw [packL_cons_length] at hl
    refine ev_step (fun k => spec_l1Pack.l0.eq_2 _ _ _ _) (ev_pos (by omega) (ev_pos (by omega) (ev_pos (by omega) ?_)))
    rw [rdW ws i (by omega)]
    refine ev_bind (ev_now rfl) (ev_pos (by simp; omega) ?_)
    rw [w64s (by omega)]
    refine ev_eq (ih (i + 1) _ (by omega) (by simp; omega)) ?_
    simp [packL]
theorem l1Pack_ev (ws : List (List Int)) (hw : ws.length ≤ 1048576) (hl : (packL ws).length < 140737488355328) : Ev (fun k => spec_l1Pack.f k ws) (packL ws) := by
  have h := l1Pack_l0 ws hw ws.length 0 [] (by omega) (by simpa using hl)
  unfold spec_l1Pack.f
  simpa using h
/-- The words that are packed, and whether they are few and short. -/
def packedV (ws : List (List Int)) : List Int × Bool := if ws.length > 60 then ([], false) else if (∀ w ∈ ws, w.length ≤ 200) ∧ (packL ws).length ≤ 4000 then (packL ws, true) else ([], false)
theorem packed_l0 (ws : List (List Int)) (hw : ws.length ≤ 60) (hs : ∀ w ∈ ws, w.length ≤ 9223372036854771000) : ∀ (d i : Nat) (y : List Int), i + d = ws.length → y.length ≤ 4000 → Ev (fun k => impl_packed.l0 k y ws (ws.length : Int) (i : Int)) (if (∀ w ∈ ws.drop i, w.length ≤ 200) ∧ y.length + (packL (ws.drop i)).length ≤ 4000 then (y ++ packL (ws.drop i), true) else ([], false)) := by
  intro d
  induction d with
  | zero =>
    intro i y hi hl
    rw [List.drop_of_length_le (by omega)]
    rw [if_pos ⟨fun w hw => (by cases hw), (by simpa [packL] using hl)⟩]
    exact ev_step (fun k => impl_packed.l0.eq_2 _ _ _ _ _) (ev_neg (by omega) (ev_now (by simp [packL])))
  | succ d ih =>
    intro i y hi hl
    rw [List.drop_eq_getElem_cons (by omega)]
    have hsi := hs ws[i] (List.getElem_mem _)
    refine ev_step (fun k => impl_packed.l0.eq_2 _ _ _ _ _) (ev_pos (by omega) (ev_pos (by omega) (ev_pos (by omega) ?_)))
    rw [rdW ws i (by omega), packL_cons_length]
    by_cases c : ws[i].length > 200
    · rw [if_neg (fun h => by have := h.1 ws[i] List.mem_cons_self; omega)]
      exact ev_pos (by omega) (ev_now rfl)
    · refine ev_neg (by omega) ?_
      rw [w64 (n := (y.length : Int) + 1) (by omega) (by omega), w64 (n := (y.length : Int) + 1 + (ws[i].length : Int)) (by omega) (by omega)]
      by_cases e : (y.length : Int) + 1 + (ws[i].length : Int) > 4000
      · rw [if_neg (fun h => by omega)]
        exact ev_pos e (ev_now rfl)
      · refine ev_neg e (ev_pos (by omega) (ev_bind (ev_now rfl) (ev_pos (by simp; omega) ?_)))
        rw [w64s (by omega)]
        refine ev_eq (ih (i + 1) _ (by omega) (by simp; omega)) ?_
        have hq : ((∀ w ∈ ws[i] :: ws.drop (i + 1), w.length ≤ 200) ∧ y.length + (1 + ws[i].length + (packL (ws.drop (i + 1))).length) ≤ 4000) ↔ ((∀ w ∈ ws.drop (i + 1), w.length ≤ 200) ∧ (y ++ [(ws[i].length : Int) % 256] ++ ws[i]).length + (packL (ws.drop (i + 1))).length ≤ 4000) := by
          have hlen : (y ++ [(ws[i].length : Int) % 256] ++ ws[i]).length = y.length + 1 + ws[i].length := by simp; omega
          rw [hlen]
          constructor
          · rintro ⟨h1, h2⟩
            exact ⟨fun w hw => h1 w (List.mem_cons_of_mem _ hw), by omega⟩
          · rintro ⟨h1, h2⟩
            refine ⟨fun w hw => ?_, by omega⟩
            rcases List.mem_cons.1 hw with rfl | hw
            · omega
            · exact h1 w hw
        by_cases g : (∀ w ∈ ws[i] :: ws.drop (i + 1), w.length ≤ 200) ∧ y.length + (1 + ws[i].length + (packL (ws.drop (i + 1))).length) ≤ 4000
        · rw [if_pos g, if_pos (hq.1 g)]
          simp [packL]
        · rw [if_neg g, if_neg (fun h => g (hq.2 h))]
theorem packed_ev (ws : List (List Int)) (hs : ∀ w ∈ ws, w.length ≤ 9223372036854771000) : Ev (fun k => impl_packed.f k ws) (packedV ws) := by
  unfold impl_packed.f packedV
  by_cases c : ws.length > 60
  · rw [if_pos c]; exact ev_pos (by omega) (ev_now rfl)
  · rw [if_neg c]
    have h := packed_l0 ws (by omega) hs ws.length 0 [] (by omega) (by simp)
    simp only [List.drop_zero, List.length_nil, Nat.zero_add, List.nil_append] at h
    exact ev_neg (by omega) h
end Go.Proofs.Ytmmhghddldhogaa.S

/- Words that are unpacked: what the program's and the reference's come to; what is unpacked is packed so again. For all bytes that fit. -/
set_option linter.unusedVariables false
namespace Go.Proofs.Ytmmhghddldhogaa.S
open Go.RowKit Go.Proofs.YtmmhghddldhogaaW.PrintWords Go.Proofs.YtmmhghddldhogaaW.PrintLast Go.Proofs.YtmmhghddldhogaaW.PrintMore Go.Proofs.Ytmmhghddldhogaa.Base

def unpL (n : Nat) : Nat → List Int → Int → List (List Int) → Int × Int × List (List Int)
  | 0, _, _, _ => (0, 0, [])
  | _ + 1, [], _, ws => (0, 0, ws)
  | f + 1, c :: d, p, ws => if ws.length = 60 then (2, p, []) else if c > 200 then (3, p, []) else if c > (d.length : Int) then (5, (n : Int), []) else unpL n f (d.drop c.toNat) (p + 1 + c) (ws ++ [d.take c.toNat])
theorem cut_eq (x : List Int) (p c : Nat) (d : List Int) (y : Int) (h : x.drop p = y :: d) : (x.take (p + 1 + c)).drop (p + 1) = d.take c ∧ x.drop (p + 1 + c) = d.drop c := by
  have h1 : x.drop (p + 1) = d := by rw [← List.drop_drop, h]; rfl
  refine ⟨?_, by rw [← List.drop_drop, h1]⟩
  rw [List.drop_take, show p + 1 + c - (p + 1) = c by omega, h1]
theorem unp_fact (x : List Int) (hx : Byt x) (hl : x.length ≤ 4000) (p : Nat) (d : List Int) (c : Int) (h : x.drop p = c :: d) : p < x.length ∧ rd x (p : Int) = c ∧ 0 ≤ c ∧ c ≤ 255 ∧ d.length = x.length - (p + 1) := by
  have hp : p < x.length := by
    rcases Nat.lt_or_ge p x.length with g | g
    · exact g
    · rw [List.drop_of_length_le g] at h
      cases h
  have h2 := h
  rw [List.drop_eq_getElem_cons hp] at h2
  injection h2 with h3 h4
  have hb := hx x[p] (List.getElem_mem _)
  refine ⟨hp, by rw [rd_nat x p hp, h3], by omega, by omega, ?_⟩
  rw [← h4, List.length_drop]
theorem impl_unp_l0 (x : List Int) (hx : Byt x) (hl : x.length ≤ 4000) : ∀ (f p : Nat) (ws : List (List Int)), p ≤ x.length → x.length - p < f → ws.length ≤ 60 → Ev (fun k => impl_UnpackWords.l0 k x ws (p : Int)) (unpL x.length f (x.drop p) (p : Int) ws) := by
  intro f
  induction f with
  | zero => intro p ws h1 h2; omega
  | succ f ih =>
    intro p ws h1 h2 h3
    cases e : x.drop p with
    | nil =>
      have : x.length ≤ p := by
        have := congrArg List.length e
        rw [List.length_drop] at this
        simp at this
        omega
      exact ev_step (fun k => impl_UnpackWords.l0.eq_2 _ _ _ _) (ev_neg (by omega) (ev_now rfl))
    | cons c d =>
      obtain ⟨hp, hr, hc0, hc1, hd⟩ := unp_fact x hx hl p d c e
      refine ev_step (fun k => impl_UnpackWords.l0.eq_2 _ _ _ _) (ev_pos (by omega) (ev_pos (by omega) ?_))
      rw [hr, w64 (n := c) (by omega) (by omega), w64s (by omega), w64 (n := ((p + 1 : Nat) : Int) + c) (by omega) (by omega)]
      unfold unpL
      by_cases g1 : ws.length = 60
      · rw [if_pos g1]; exact ev_pos (by omega) (ev_now rfl)
      rw [if_neg g1]; refine ev_neg (by omega) ?_
      by_cases g2 : c > 200
      · rw [if_pos g2]; exact ev_pos g2 (ev_now rfl)
      rw [if_neg g2]; refine ev_neg g2 ?_
      by_cases g3 : c > (d.length : Int)
      · rw [if_pos g3]; exact ev_pos (by omega) (ev_now rfl)
      rw [if_neg g3]
      refine ev_neg (by omega) (ev_pos (by omega) (ev_pos (by omega) (ev_pos (by omega) ?_)))
      obtain ⟨cn, rfl⟩ := Int.eq_ofNat_of_zero_le hc0
      rw [show (((p + 1 : Nat) : Int) + (cn : Int)) = ((p + 1 + cn : Nat) : Int) by omega, Int.toNat_natCast, Int.toNat_natCast, (cut_eq x p cn d _ e).1, Int.toNat_natCast]
      refine ev_bind (ev_now (show bytes_Clone.f (d.take cn) = some (d.take cn) from by unfold bytes_Clone.f; rw [if_pos (by rw [List.length_take]; omega)])) (ev_pos (by omega) ?_)
      have h := ih (p + 1 + cn) (ws ++ [d.take cn]) (by omega) (by omega) (by simp; omega)
      rw [(cut_eq x p cn d _ e).2] at h
      rw [show (p : Int) + 1 + (cn : Int) = ((p + 1 + cn : Nat) : Int) by omega]
      exact h
theorem spec_unp_l0 (x : List Int) (hx : Byt x) (hl : x.length ≤ 4000) : ∀ (f p : Nat) (ws : List (List Int)), p ≤ x.length → x.length - p < f → ws.length ≤ 60 → Ev (fun k => spec_UnpackWords.l0 k x (p : Int) 0 0 ws) (unpL x.length f (x.drop p) (p : Int) ws) := by
  intro f
  induction f with
  | zero => intro p ws h1 h2; omega
  | succ f ih =>
    intro p ws h1 h2 h3
    cases e : x.drop p with
    | nil =>
      have : x.length ≤ p := by
        have := congrArg List.length e
        rw [List.length_drop] at this
        simp at this
        omega
      exact ev_step (fun k => spec_UnpackWords.l0.eq_2 _ _ _ _ _ _) (ev_neg (by omega) (ev_now rfl))
    | cons c d =>
      obtain ⟨hp, hr, hc0, hc1, hd⟩ := unp_fact x hx hl p d c e
      refine ev_step (fun k => spec_UnpackWords.l0.eq_2 _ _ _ _ _ _) (ev_pos (by omega) (ev_pos (by omega) ?_))
      rw [hr, w64 (n := c) (by omega) (by omega), w64s (by omega), w64 (n := ((p + 1 : Nat) : Int) + c) (by omega) (by omega)]
      unfold unpL
      by_cases g1 : ws.length = 60
      · rw [if_pos g1]; exact ev_pos (by omega) (ev_now rfl)
      rw [if_neg g1]; refine ev_neg (by omega) ?_
      by_cases g2 : c > 200
      · rw [if_pos g2]; exact ev_pos g2 (ev_now rfl)
      rw [if_neg g2]; refine ev_neg g2 ?_
      by_cases g3 : c > (d.length : Int)
      · rw [if_pos g3]; exact ev_pos (by omega) (ev_now rfl)
      rw [if_neg g3]
      refine ev_neg (by omega) (ev_bind (ev_now rfl) (ev_pos (by omega) (ev_pos (by omega) (ev_pos (by omega) ?_))))
      obtain ⟨cn, rfl⟩ := Int.eq_ofNat_of_zero_le hc0
      rw [show (((p + 1 : Nat) : Int) + (cn : Int)) = ((p + 1 + cn : Nat) : Int) by omega, Int.toNat_natCast, Int.toNat_natCast, (cut_eq x p cn d _ e).1, Int.toNat_natCast]
      refine ev_pos (by rw [List.length_take]; simp; omega) (ev_pos (by omega) ?_)
      have h := ih (p + 1 + cn) (ws ++ [d.take cn]) (by omega) (by omega) (by simp; omega)
      rw [(cut_eq x p cn d _ e).2] at h
      rw [show (p : Int) + 1 + (cn : Int) = ((p + 1 + cn : Nat) : Int) by omega, List.nil_append]
      exact h
def unpackV (x : List Int) : Int × Int × List (List Int) := if x.length > 4000 then (2, 0, []) else unpL x.length (x.length + 1) x 0 []
theorem impl_UnpackWords_ev {x : List Int} (hx : Byt x) : Ev (fun k => impl_UnpackWords.f k x) (unpackV x) := by
  unfold impl_UnpackWords.f unpackV
  by_cases h : x.length > 4000
  · rw [if_pos h]; exact ev_pos (by omega) (ev_now rfl)
  · rw [if_neg h]; exact ev_neg (by omega) (impl_unp_l0 x hx (by omega) (x.length + 1) 0 [] (by omega) (by omega) (by simp))
theorem spec_UnpackWords_ev {x : List Int} (hx : Byt x) : Ev (fun k => spec_UnpackWords.f k x) (unpackV x) := by
  unfold spec_UnpackWords.f unpackV
  by_cases h : x.length > 4000
  · rw [if_pos h]; exact ev_pos (by omega) (ev_now rfl)
  · rw [if_neg h]; exact ev_neg (by omega) (spec_unp_l0 x hx (by omega) (x.length + 1) 0 [] (by omega) (by omega) (by simp))
theorem packL_append : ∀ (a b : List (List Int)), packL (a ++ b) = packL a ++ packL b
  | [], b => rfl
  | w :: a, b => by simp [packL, packL_append a b]
/-- What is unpacked: few words, short ones, of bytes; no code: the bytes are these words'; a code: no words. -/
theorem unpL_ok (n : Nat) : ∀ (f : Nat) (d : List Int) (p : Int) (ws : List (List Int)), Byt d → d.length < f → (∀ w ∈ ws, Byt w ∧ w.length ≤ 200) → ws.length ≤ 60 → 0 ≤ p → p + d.length = n →
    (∀ w ∈ (unpL n f d p ws).2.2, Byt w ∧ w.length ≤ 200) ∧ (unpL n f d p ws).2.2.length ≤ 60 ∧ ((unpL n f d p ws).1 = 0 → packL (unpL n f d p ws).2.2 = packL ws ++ d) ∧ ((unpL n f d p ws).1 ≠ 0 → (unpL n f d p ws).2.2 = [] ∧ (unpL n f d p ws).2.1 ≤ n) ∧ ((unpL n f d p ws).1 = 0 → (unpL n f d p ws).2.1 = 0) := by
  intro f
  induction f with
  | zero => intro d p ws _ h; omega
  | succ f ih =>
    intro d p ws hd hf hw hl hp hn
    cases d with
    | nil => exact ⟨hw, hl, fun _ => by show packL ws = packL ws ++ []; rw [List.append_nil], fun h => absurd rfl h, fun _ => rfl⟩
    | cons c d =>
      have hc := hd c List.mem_cons_self
      have hd2 : Byt d := fun x hx => hd x (List.mem_cons_of_mem _ hx)
      simp only [List.length_cons] at hf hn
      unfold unpL
      by_cases g1 : ws.length = 60
      · rw [if_pos g1]
        exact ⟨fun w h => (by cases h), by simp, fun h => absurd (show (2 : Int) = 0 from h) (by decide), fun _ => ⟨rfl, by show p ≤ (n : Int); omega⟩, fun h => absurd (show (2 : Int) = 0 from h) (by decide)⟩
      rw [if_neg g1]
      by_cases g2 : c > 200
      · rw [if_pos g2]
        exact ⟨fun w h => (by cases h), by simp, fun h => absurd (show (3 : Int) = 0 from h) (by decide), fun _ => ⟨rfl, by show p ≤ (n : Int); omega⟩, fun h => absurd (show (3 : Int) = 0 from h) (by decide)⟩
      rw [if_neg g2]
      by_cases g3 : c > (d.length : Int)
      · rw [if_pos g3]
        exact ⟨fun w h => (by cases h), by simp, fun h => absurd (show (5 : Int) = 0 from h) (by decide), fun _ => ⟨rfl, by show (n : Int) ≤ (n : Int); omega⟩, fun h => absurd (show (5 : Int) = 0 from h) (by decide)⟩
      rw [if_neg g3]
      obtain ⟨cn, rfl⟩ := Int.eq_ofNat_of_zero_le hc.1
      rw [Int.toNat_natCast]
      have ht : (d.take cn).length = cn := by rw [List.length_take]; omega
      have := ih (d.drop cn) (p + 1 + (cn : Int)) (ws ++ [d.take cn]) (byt_drop hd2 cn) (by rw [List.length_drop]; omega) (fun w hw2 => by
        rcases List.mem_append.1 hw2 with h | h
        · exact hw w h
        · rw [List.mem_singleton.1 h]
          exact ⟨byt_take hd2 cn, by omega⟩) (by simp; omega) (by omega) (by rw [List.length_drop]; omega)
      obtain ⟨a1, a2, a3, a4, a5⟩ := this
      refine ⟨a1, a2, fun h => ?_, a4, a5⟩
      rw [a3 h, packL_append]
      have e1 : packL [d.take cn] = ((cn : Int)) :: d.take cn := by
        show ((((d.take cn).length : Int) % 256) :: d.take cn) ++ [] = _
        rw [ht, List.append_nil, Int.emod_eq_of_lt (by omega) (by omega)]
      rw [e1, List.append_assoc, List.cons_append, List.take_append_drop]
theorem unpackV_ok {x : List Int} (hx : Byt x) : (∀ w ∈ (unpackV x).2.2, Byt w ∧ w.length ≤ 200) ∧ (unpackV x).2.2.length ≤ 60 ∧ ((unpackV x).1 = 0 → packL (unpackV x).2.2 = x) ∧ ((unpackV x).1 ≠ 0 → (unpackV x).2.2 = [] ∧ (unpackV x).2.1 ≤ x.length) ∧ ((unpackV x).1 = 0 → (unpackV x).2.1 = 0) := by
  unfold unpackV
  by_cases h : x.length > 4000
  · rw [if_pos h]
    exact ⟨fun w h => (by cases h), by simp, fun h => absurd (show (2 : Int) = 0 from h) (by decide), fun _ => ⟨rfl, by show (0 : Int) ≤ _; omega⟩, fun h => absurd (show (2 : Int) = 0 from h) (by decide)⟩
  · rw [if_neg h]
    have := unpL_ok x.length (x.length + 1) x 0 [] hx (by omega) (fun w h => (by cases h)) (by simp) (by omega) (by omega)
    exact this
/-- Words that are packed are unpacked as they were. -/
theorem unpL_pack (n : Nat) : ∀ (vs : List (List Int)) (f : Nat) (p : Int) (ws : List (List Int)), (∀ w ∈ vs, w.length ≤ 200) → (packL vs).length < f → ws.length + vs.length ≤ 60 → unpL n f (packL vs) p ws = (0, 0, ws ++ vs) := by
  intro vs
  induction vs with
  | nil =>
    intro f p ws _ hf _
    obtain ⟨f, rfl⟩ : ∃ m, f = m + 1 := ⟨f - 1, by simp [packL] at hf; omega⟩
    show (0, 0, ws) = _
    rw [List.append_nil]
  | cons v vs ih =>
    intro f p ws hw hf hl
    have hv := hw v List.mem_cons_self
    rw [packL_cons_length] at hf
    simp only [List.length_cons] at hl
    obtain ⟨f, rfl⟩ : ∃ m, f = m + 1 := ⟨f - 1, by omega⟩
    have e : packL (v :: vs) = (v.length : Int) :: (v ++ packL vs) := by
      show ((v.length : Int) % 256 :: v) ++ packL vs = _
      rw [Int.emod_eq_of_lt (by omega) (by omega)]
      rfl
    rw [e]
    unfold unpL
    rw [if_neg (by omega), if_neg (by omega), if_neg (by rw [List.length_append]; omega), Int.toNat_natCast, List.drop_left, List.take_left, ih f _ _ (fun w h => hw w (List.mem_cons_of_mem _ h)) (by omega) (by simp; omega), List.append_assoc]
    rfl
theorem unpackV_pack {vs : List (List Int)} (hw : ∀ w ∈ vs, w.length ≤ 200) (hl : vs.length ≤ 60) (hn : (packL vs).length ≤ 4000) : unpackV (packL vs) = (0, 0, vs) := by
  unfold unpackV
  rw [if_neg (by omega), unpL_pack _ vs _ _ [] hw (by omega) (by simpa using hl)]
  rfl
end Go.Proofs.Ytmmhghddldhogaa.S

/- How a tree is split, and on which side the other parts are: the program's splitAt and sides and the reference's l3Split and l3Sides agree for 1 to 16 leaves. -/
set_option linter.unusedVariables false
namespace Go.Proofs.Ytmmhghddldhogaa.S
open Go.RowKit Go.Proofs.YtmmhghddldhogaaW.PrintWords Go.Proofs.YtmmhghddldhogaaW.PrintLast Go.Proofs.YtmmhghddldhogaaW.PrintMore Go.Proofs.Ytmmhghddldhogaa.Base

def splitV (n : Int) : Int := if n ≤ 2 then 1 else if n ≤ 4 then 2 else if n ≤ 8 then 4 else 8
theorem splitV_range {n : Int} (h : 2 ≤ n) (h1 : n ≤ 16) : 1 ≤ splitV n ∧ splitV n < n ∧ splitV n ≤ 8 ∧ n - splitV n ≤ 8 := by
  unfold splitV
  repeat' split
  all_goals omega
theorem wd (x : Int) (h0 : 0 ≤ x) (h1 : x ≤ 16) : wrap64 (2 * x) = 2 * x := w64 (by omega) (by omega)
theorem wd' (x : Int) (h0 : 0 ≤ x) (h1 : x ≤ 16) : wrap64 (x * 2) = 2 * x := by rw [w64 (by omega) (by omega)]; omega
theorem spec_split_ev {n : Int} (h : 2 ≤ n) (h1 : n ≤ 16) : Ev (fun k => spec_l3Split.f k n) (splitV n) := by
  unfold spec_l3Split.f splitV
  refine ev_step (fun k => spec_l3Split.l0.eq_2 _ _ _) ?_
  rw [wd 1 (by omega) (by omega)]
  by_cases c1 : n ≤ 2
  · rw [if_pos c1]; exact ev_neg (by omega) (ev_now rfl)
  rw [if_neg c1]; refine ev_pos (by omega) ?_
  refine ev_step (fun k => spec_l3Split.l0.eq_2 _ _ _) ?_
  rw [wd (2 * 1) (by omega) (by omega)]
  by_cases c2 : n ≤ 4
  · rw [if_pos c2]; exact ev_neg (by omega) (ev_now rfl)
  rw [if_neg c2]; refine ev_pos (by omega) ?_
  refine ev_step (fun k => spec_l3Split.l0.eq_2 _ _ _) ?_
  rw [wd (2 * (2 * 1)) (by omega) (by omega)]
  by_cases c3 : n ≤ 8
  · rw [if_pos c3]; exact ev_neg (by omega) (ev_now rfl)
  rw [if_neg c3]; refine ev_pos (by omega) ?_
  refine ev_step (fun k => spec_l3Split.l0.eq_2 _ _ _) ?_
  rw [wd (2 * (2 * (2 * 1))) (by omega) (by omega)]
  exact ev_neg (by omega) (ev_now rfl)
theorem impl_split_ev {n : Int} (h : 2 ≤ n) (h1 : n ≤ 16) : Ev (fun k => impl_splitAt.f k n) (splitV n) := by
  unfold impl_splitAt.f splitV
  refine ev_step (fun k => impl_splitAt.l0.eq_2 _ _ _) ?_
  rw [wd 1 (by omega) (by omega), wd' 1 (by omega) (by omega)]
  by_cases c1 : n ≤ 2
  · rw [if_pos c1]; exact ev_neg (by omega) (ev_now rfl)
  rw [if_neg c1]; refine ev_pos (by omega) ?_
  refine ev_step (fun k => impl_splitAt.l0.eq_2 _ _ _) ?_
  rw [wd (2 * 1) (by omega) (by omega), wd' (2 * 1) (by omega) (by omega)]
  by_cases c2 : n ≤ 4
  · rw [if_pos c2]; exact ev_neg (by omega) (ev_now rfl)
  rw [if_neg c2]; refine ev_pos (by omega) ?_
  refine ev_step (fun k => impl_splitAt.l0.eq_2 _ _ _) ?_
  rw [wd (2 * (2 * 1)) (by omega) (by omega), wd' (2 * (2 * 1)) (by omega) (by omega)]
  by_cases c3 : n ≤ 8
  · rw [if_pos c3]; exact ev_neg (by omega) (ev_now rfl)
  rw [if_neg c3]; refine ev_pos (by omega) ?_
  refine ev_step (fun k => impl_splitAt.l0.eq_2 _ _ _) ?_
  rw [wd (2 * (2 * (2 * 1))) (by omega) (by omega)]
  exact ev_neg (by omega) (ev_now rfl)
/-- The sides of the way from leaf p up in a tree of n leaves: true: the other part is on the left. -/
theorem sides_ev : ∀ (m : Nat) (n p : Int), n ≤ m → 1 ≤ n → n ≤ 16 → 0 ≤ p → p < n → ∃ L : List Bool, (L.length : Int) < n ∧ Ev (fun k => impl_sides.f k n p) L ∧ Ev (fun k => spec_l3Sides.f k n p) (L.map not) := by
  intro m
  induction m with
  | zero => intro n p h h1; omega
  | succ m ih =>
    intro n p h h1 h2 hp hq
    by_cases e : n = 1
    · refine ⟨[], by simp; omega, ?_, ?_⟩
      · exact ev_step (fun k => impl_sides.f.eq_2 _ _ _) (ev_pos e (ev_now rfl))
      · exact ev_step (fun k => spec_l3Sides.f.eq_2 _ _ _) (ev_pos (by omega) (ev_now rfl))
    · have hr := splitV_range (n := n) (by omega) h2
      have hs := spec_split_ev (n := n) (by omega) h2
      have hi := impl_split_ev (n := n) (by omega) h2
      generalize splitV n = v at hr hs hi
      by_cases c : p < v
      · obtain ⟨L, l1, l2, l3⟩ := ih v p (by omega) (by omega) (by omega) hp c
        refine ⟨L ++ [false], by simp; omega, ?_, ?_⟩
        · refine ev_step (fun k => impl_sides.f.eq_2 _ _ _) (ev_neg e (ev_bind hi (ev_pos c (ev_bind l2 (ev_pos ?_ (ev_now rfl))))))
          omega
        · refine ev_step (fun k => spec_l3Sides.f.eq_2 _ _ _) (ev_neg (by omega) (ev_bind hs (ev_pos c (ev_bind l3 (ev_pos ?_ (ev_now (by simp)))))))
          rw [List.length_map]; omega
      · obtain ⟨L, l1, l2, l3⟩ := ih (n - v) (p - v) (by omega) (by omega) (by omega) (by omega) (by omega)
        have e1 : wrap64 (n - v) = n - v := w64 (by omega) (by omega)
        have e2 : wrap64 (p - v) = p - v := w64 (by omega) (by omega)
        refine ⟨L ++ [true], by simp; omega, ?_, ?_⟩
        · refine ev_step (fun k => impl_sides.f.eq_2 _ _ _) (ev_neg e (ev_bind hi (ev_neg c ?_)))
          rw [e1, e2]
          exact ev_bind l2 (ev_pos (by omega) (ev_now rfl))
        · refine ev_step (fun k => spec_l3Sides.f.eq_2 _ _ _) (ev_neg (by omega) (ev_bind hs (ev_neg c ?_)))
          rw [e1, e2]
          exact ev_bind l3 (ev_pos (by rw [List.length_map]; omega) (ev_now (by simp)))
end Go.Proofs.Ytmmhghddldhogaa.S

/- Is a number in its bounds: the program's and the reference's answer. -/
set_option linter.unusedVariables false
namespace Go.Proofs.Ytmmhghddldhogaa.S
open Go.RowKit Go.Proofs.YtmmhghddldhogaaW.PrintWords Go.Proofs.YtmmhghddldhogaaW.PrintLast Go.Proofs.YtmmhghddldhogaaW.PrintMore Go.Proofs.Ytmmhghddldhogaa.Base

theorem in_eq (a b c : Int) : impl_in.f a b c = some (decide (b ≤ a ∧ a ≤ c)) := by
  unfold impl_in.f
  by_cases h : b ≤ a <;> simp [h]
theorem l1In_eq (a b c : Int) : spec_l1In.f a b c = some (decide (b ≤ a ∧ a ≤ c)) := by
  unfold spec_l1In.f
  by_cases h : b ≤ a <;> simp [h]
end Go.Proofs.Ytmmhghddldhogaa.S

/- What the laws' own helpers on byte slices come to: toByteS copies, eqByteS compares, markByteS and heldByteS count alike. For every slice that fits memory. -/
set_option linter.unusedVariables false
namespace Go.Proofs.Ytmmhghddldhogaa.S
open Go.RowKit Go.Proofs.YtmmhghddldhogaaW.PrintWords Go.Proofs.YtmmhghddldhogaaW.PrintLast Go.Proofs.YtmmhghddldhogaaW.PrintMore Go.Proofs.Ytmmhghddldhogaa.Base

theorem toByteS_l0 (l : List Int) (hl : l.length ≤ 281474976710656) : ∀ (d : Nat) (x : List Int) (i : Nat), i + d = l.length → x.length = l.length → (∀ j, j < i → x[j]? = l[j]?) → Ev (fun k => laws_toByteS.l0 k l x (i : Int)) l := by
  intro d
  induction d with
  | zero =>
    intro x i hi hx hj
    refine ev_step (fun k => laws_toByteS.l0.eq_2 _ _ _ _) ?_
    refine ev_neg (by omega) ?_
    rw [fill_all hx (fun j h => hj j (by omega))]
    exact ev_now rfl
  | succ d ih =>
    intro x i hi hx hj
    refine ev_step (fun k => laws_toByteS.l0.eq_2 _ _ _ _) ?_
    refine ev_pos (by omega) ?_
    refine ev_pos (by omega) ?_
    refine ev_pos (by omega) ?_
    rw [w64s (by omega), Int.toNat_natCast]
    exact ih _ (i + 1) (by omega) (by rw [List.length_set]; exact hx) (fill_step (by omega) hx hj)
theorem toByteS_ev (l : List Int) (hl : l.length ≤ 281474976710656) : Ev (fun k => laws_toByteS.f k l) l := by
  unfold laws_toByteS.f
  refine ev_pos (by omega) ?_
  refine ev_pos (by omega) ?_
  exact toByteS_l0 l hl l.length _ 0 (by omega) (by simp) (fun j h => by omega)
theorem eqByteS_l0 (l : List Int) (hl : l.length ≤ 281474976710656) : ∀ (d i : Nat), i + d = l.length → Ev (fun k => laws_eqByteS.l0 k l l (i : Int)) true := by
  intro d
  induction d with
  | zero =>
    intro i hi
    refine ev_step (fun k => laws_eqByteS.l0.eq_2 _ _ _ _) ?_
    refine ev_neg (by omega) ?_
    exact ev_now rfl
  | succ d ih =>
    intro i hi
    refine ev_step (fun k => laws_eqByteS.l0.eq_2 _ _ _ _) ?_
    refine ev_pos (by omega) ?_
    refine ev_pos (by omega) ?_
    refine ev_pos (by omega) ?_
    refine ev_pos rfl ?_
    rw [w64s (by omega)]
    exact ih (i + 1) (by omega)
theorem eqByteS_ev (l : List Int) (hl : l.length ≤ 281474976710656) : Ev (fun k => laws_eqByteS.f k l l) true := by
  unfold laws_eqByteS.f
  refine ev_pos rfl ?_
  exact eqByteS_l0 l hl l.length 0 (by omega)
end Go.Proofs.Ytmmhghddldhogaa.S

/- How many places are left behind a slice of bytes. -/
set_option linter.unusedVariables false
namespace Go.Proofs.Ytmmhghddldhogaa.S
open Go.RowKit Go.Proofs.YtmmhghddldhogaaW.PrintWords Go.Proofs.YtmmhghddldhogaaW.PrintLast Go.Proofs.YtmmhghddldhogaaW.PrintMore Go.Proofs.Ytmmhghddldhogaa.Base

def szV (n : Nat) (a : Int) : Int := if a - n < 0 then -1 else a - n
theorem szByteS_eq (l : List Int) (a : Int) (hl : l.length ≤ 9223372036854775807) (h0 : 0 ≤ a) (h1 : a ≤ 1048576) : laws_szByteS.f l a = some (szV l.length a) := by
  unfold laws_szByteS.f szV
  rw [w64 (by omega) (by omega)]
  split <;> rfl
theorem szV_range {n : Nat} {a : Int} (h : ¬ szV n a < 0) : (n : Int) ≤ a ∧ szV n a = a - n := by
  unfold szV at h ⊢
  split at h
  · omega
  · rename_i g
    rw [if_neg g]
    exact ⟨by omega, rfl⟩
end Go.Proofs.Ytmmhghddldhogaa.S

/- What the laws' helpers on slices of byte slices come to: a copy, a comparison, a size. For all that fit memory. -/
set_option linter.unusedVariables false
namespace Go.Proofs.Ytmmhghddldhogaa.S
open Go.RowKit Go.Proofs.YtmmhghddldhogaaW.PrintWords Go.Proofs.YtmmhghddldhogaaW.PrintLast Go.Proofs.YtmmhghddldhogaaW.PrintMore Go.Proofs.Ytmmhghddldhogaa.Base

theorem rdLL (ls : List (List Int)) (i : Nat) (h : i < ls.length) : rd_L2 ls (i : Int) = ls[i] := by
  unfold rd_L2
  simp [List.getD_eq_getElem?_getD, List.getElem?_eq_getElem h]
theorem toByteSS_l0 (ls : List (List Int)) (hl : ls.length ≤ 11728124029610) (hi : ∀ l ∈ ls, l.length ≤ 281474976710656) : ∀ (d : Nat) (x : List (List Int)) (i : Nat), i + d = ls.length → x.length = ls.length → (∀ j, j < i → x[j]? = ls[j]?) → Ev (fun k => laws_toByteSS.l0 k ls x (i : Int)) ls := by
  intro d
  induction d with
  | zero =>
    intro x i h hx hj
    refine ev_step (fun k => laws_toByteSS.l0.eq_2 _ _ _ _) (ev_neg (by omega) ?_)
    rw [fill_all hx (fun j h => hj j (by omega))]
    exact ev_now rfl
  | succ d ih =>
    intro x i h hx hj
    have hlt : i < ls.length := by omega
    refine ev_step (fun k => laws_toByteSS.l0.eq_2 _ _ _ _) (ev_pos (by omega) (ev_pos (by omega) ?_))
    rw [rdLL ls i hlt]
    refine ev_bind (toByteS_ev ls[i] (hi _ (List.getElem_mem _))) (ev_pos (by omega) ?_)
    rw [w64s (by omega), Int.toNat_natCast]
    refine ih _ (i + 1) (by omega) (by rw [List.length_set]; exact hx) (fun j hj' => ?_)
    rw [List.getElem?_set]
    by_cases e : i = j
    · subst e
      rw [if_pos rfl, if_pos (by omega), List.getElem?_eq_getElem hlt]
    · rw [if_neg e]
      exact hj j (by omega)
theorem toByteSS_ev (ls : List (List Int)) (hl : ls.length ≤ 11728124029610) (hi : ∀ l ∈ ls, l.length ≤ 281474976710656) : Ev (fun k => laws_toByteSS.f k ls) ls := by
  unfold laws_toByteSS.f
  exact ev_pos (by omega) (ev_pos (by omega) (toByteSS_l0 ls hl hi ls.length _ 0 (by omega) (by simp) (fun j h => by omega)))
theorem eqByteSS_l0 (ls : List (List Int)) (hl : ls.length ≤ 11728124029610) (hi : ∀ l ∈ ls, l.length ≤ 281474976710656) : ∀ (d i : Nat), i + d = ls.length → Ev (fun k => laws_eqByteSS.l0 k ls ls (i : Int)) true := by
  intro d
  induction d with
  | zero =>
    intro i h
    exact ev_step (fun k => laws_eqByteSS.l0.eq_2 _ _ _ _) (ev_neg (by omega) (ev_now rfl))
  | succ d ih =>
    intro i h
    have hlt : i < ls.length := by omega
    refine ev_step (fun k => laws_eqByteSS.l0.eq_2 _ _ _ _) (ev_pos (by omega) (ev_pos (by omega) (ev_pos (by omega) ?_)))
    rw [rdLL ls i hlt]
    refine ev_bind (eqByteS_ev ls[i] (hi _ (List.getElem_mem _))) (ev_pos rfl ?_)
    rw [w64s (by omega)]
    exact ih (i + 1) (by omega)
theorem eqByteSS_ev (ls : List (List Int)) (hl : ls.length ≤ 11728124029610) (hi : ∀ l ∈ ls, l.length ≤ 281474976710656) : Ev (fun k => laws_eqByteSS.f k ls ls) true := by
  unfold laws_eqByteSS.f
  exact ev_pos rfl (eqByteSS_l0 ls hl hi ls.length 0 (by omega))
theorem szByteSS_l0 (ls : List (List Int)) (hi : ∀ l ∈ ls, l.length ≤ 9223372036854775807) : ∀ (d i : Nat) (a : Int), i + d = ls.length → i ≤ 1048576 → ls.length ≤ 1048576 → 0 ≤ a → a ≤ 1048576 → ∃ r, Ev (fun k => laws_szByteSS.l0 k ls a (i : Int)) r ∧ r ≤ a ∧ (¬ r < 0 → ((ls.drop i).flatten.length : Int) + r = a) := by
  intro d
  induction d with
  | zero =>
    intro i a h _ _ ha hb
    refine ⟨a, ev_step (fun k => laws_szByteSS.l0.eq_2 _ _ _ _) (ev_neg (by omega) (ev_now rfl)), by omega, fun _ => ?_⟩
    rw [List.drop_of_length_le (by omega)]
    simp
  | succ d ih =>
    intro i a h h1 h2 ha hb
    have hlt : i < ls.length := by omega
    have e1 : (ls.drop i).flatten.length = ls[i].length + (ls.drop (i + 1)).flatten.length := by
      rw [List.drop_eq_getElem_cons hlt, List.flatten_cons, List.length_append]
    have hs := szByteS_eq ls[i] a (hi _ (List.getElem_mem _)) ha hb
    by_cases c : szV ls[i].length a < 0
    · refine ⟨-1, ev_step (fun k => laws_szByteSS.l0.eq_2 _ _ _ _) (ev_pos (by omega) (ev_pos (by omega) ?_)), by omega, fun g => absurd (by omega) g⟩
      rw [rdLL ls i hlt]
      exact ev_bind (ev_now hs) (ev_pos c (ev_now rfl))
    · obtain ⟨g1, g2⟩ := szV_range c
      obtain ⟨r, hr, hra, hrz⟩ := ih (i + 1) (szV ls[i].length a) (by omega) (by omega) h2 (by omega) (by omega)
      refine ⟨r, ev_step (fun k => laws_szByteSS.l0.eq_2 _ _ _ _) (ev_pos (by omega) (ev_pos (by omega) ?_)), by omega, fun g => ?_⟩
      · rw [rdLL ls i hlt]
        refine ev_bind (ev_now hs) (ev_neg c ?_)
        rw [w64s (by omega)]
        exact hr
      · have := hrz g
        rw [e1]
        omega
theorem szByteSS_ex (ls : List (List Int)) (hl : ls.length ≤ 9223372036854775807) (hi : ∀ l ∈ ls, l.length ≤ 9223372036854775807) (a : Int) (ha : 0 ≤ a) (hb : a ≤ 1048576) : ∃ r, Ev (fun k => laws_szByteSS.f k ls a) r ∧ r ≤ a ∧ (¬ r < 0 → (ls.length : Int) + (ls.flatten.length : Int) + r = a) := by
  unfold laws_szByteSS.f
  rw [w64 (by omega) (by omega)]
  by_cases c : a - (ls.length : Int) < 0
  · exact ⟨-1, ev_pos c (ev_now rfl), by omega, fun g => absurd (by omega) g⟩
  · obtain ⟨r, hr, hra, hrz⟩ := szByteSS_l0 ls hi ls.length 0 (a - (ls.length : Int)) (by omega) (by omega) (by omega) (by omega) (by omega)
    refine ⟨r, ev_neg c hr, by omega, fun g => ?_⟩
    have := hrz g
    rw [List.drop_zero] at this
    omega
theorem mem_flat {ls : List (List Int)} {l : List Int} (h : l ∈ ls) : l.length ≤ ls.flatten.length := by
  induction ls with
  | nil => cases h
  | cons x ls ih =>
    rw [List.flatten_cons, List.length_append]
    rcases List.mem_cons.1 h with rfl | h
    · omega
    · have := ih h
      omega
end Go.Proofs.Ytmmhghddldhogaa.S

/- Proofs: when one has its form, and what it climbs to: what the program's and the reference's come to. For all that fit. -/
set_option linter.unusedVariables false
namespace Go.Proofs.Ytmmhghddldhogaa.S
open Go.RowKit Go.Proofs.YtmmhghddldhogaaW.PrintWords Go.Proofs.YtmmhghddldhogaaW.PrintLast Go.Proofs.YtmmhghddldhogaaW.PrintMore Go.Proofs.Ytmmhghddldhogaa.Base

/-- A place in a tree. -/
def Placed (n p : Int) : Prop := (1 ≤ n ∧ n ≤ 16) ∧ (0 ≤ p ∧ p < n)
instance (n p : Int) : Decidable (Placed n p) := by unfold Placed; infer_instance
/-- The sides, by the reference's own words; of a place that is none, none. -/
theorem sides_ex (n p : Int) (h : Placed n p) : ∃ L : List Bool, (L.length : Int) < 16 ∧ Ev (fun k => impl_sides.f k n p) L ∧ Ev (fun k => spec_l3Sides.f k n p) (L.map not) := by
  obtain ⟨L, h1, h2, h3⟩ := sides_ev 16 n p h.1.2 h.1.1 h.1.2 h.2.1 h.2.2
  have := h.1.2
  exact ⟨L, by omega, h2, h3⟩
theorem impl_pathLength_ev (n p : Int) (L : List Bool) (h : Placed n p → Ev (fun k => impl_sides.f k n p) L) : Ev (fun k => impl_PathLength.f k n p) (if Placed n p then (0, (L.length : Int)) else (3, 0)) := by
  unfold impl_PathLength.f
  refine ev_bind (ev_now (in_eq _ _ _)) ?_
  by_cases h1 : 1 ≤ n ∧ n ≤ 16
  · refine ev_pos (decide_eq_true h1) ?_
    rw [w64 (n := n - 1) (by omega) (by omega)]
    refine ev_bind (ev_now (in_eq _ _ _)) ?_
    by_cases h2 : 0 ≤ p ∧ p ≤ n - 1
    · have hp : Placed n p := ⟨h1, h2.1, by omega⟩
      rw [if_pos hp]
      exact ev_pos (decide_eq_true h2) (ev_bind (h hp) (ev_now rfl))
    · rw [if_neg (fun hp : Placed n p => h2 ⟨hp.2.1, by have := hp.2.2; omega⟩)]
      exact ev_neg (fun g => h2 (of_decide_eq_true g)) (ev_now rfl)
  · rw [if_neg (fun hp : Placed n p => h1 hp.1)]
    exact ev_neg (fun g => h1 (of_decide_eq_true g)) (ev_now rfl)
theorem spec_pathLength_ev (n p : Int) (L : List Bool) (h : Placed n p → Ev (fun k => spec_l3Sides.f k n p) (L.map not)) : Ev (fun k => spec_PathLength.f k n p) (if Placed n p then (0, (L.length : Int)) else (3, 0)) := by
  unfold spec_PathLength.f
  refine ev_bind (ev_now (l1In_eq _ _ _)) ?_
  by_cases h1 : 1 ≤ n ∧ n ≤ 16
  · refine ev_pos (decide_eq_true h1) ?_
    rw [w64 (n := n - 1) (by omega) (by omega)]
    refine ev_bind (ev_now (l1In_eq _ _ _)) ?_
    by_cases h2 : 0 ≤ p ∧ p ≤ n - 1
    · have hp : Placed n p := ⟨h1, h2.1, by omega⟩
      rw [if_pos hp]
      exact ev_pos (decide_eq_true h2) (ev_bind (h hp) (ev_now (by rw [List.length_map])))
    · rw [if_neg (fun hp : Placed n p => h2 ⟨hp.2.1, by have := hp.2.2; omega⟩)]
      exact ev_neg (fun g => h2 (of_decide_eq_true g)) (ev_now rfl)
  · rw [if_neg (fun hp : Placed n p => h1 hp.1)]
    exact ev_neg (fun g => h1 (of_decide_eq_true g)) (ev_now rfl)
/-- All of 32 bytes. -/
def All32 (ls : List (List Int)) : Prop := ∀ l ∈ ls, l.length = 32
instance (ls : List (List Int)) : Decidable (All32 ls) := by unfold All32; infer_instance
theorem areDigests_eq (ls : List (List Int)) : impl_areDigests.f ls = some (decide (All32 ls)) := by
  unfold impl_areDigests.f
  congr 1
  rw [Bool.eq_iff_iff, List.all_eq_true, decide_eq_true_iff]
  unfold All32
  constructor
  · intro h l hl
    have := beq_iff_eq.1 (h l hl)
    omega
  · intro h l hl
    exact beq_iff_eq.2 (by have := h l hl; omega)
theorem l3Right_l0 (ls : List (List Int)) (hl : ls.length ≤ 11728124029610) (a b : Int) : ∀ (d i : Nat), i + d = ls.length → Ev (fun k => spec_l3Right.l0 k (i : Int) a b ls) (decide (All32 (ls.drop i))) := by
  intro d
  induction d with
  | zero =>
    intro i h
    rw [List.drop_of_length_le (by omega), decide_eq_true (show All32 [] from fun l hl => by cases hl)]
    exact ev_step (fun k => spec_l3Right.l0.eq_2 _ _ _ _ _) (ev_neg (by omega) (ev_now rfl))
  | succ d ih =>
    intro i h
    have hlt : i < ls.length := by omega
    refine ev_step (fun k => spec_l3Right.l0.eq_2 _ _ _ _ _) (ev_pos (by omega) (ev_pos (by omega) ?_))
    rw [rdLL ls i hlt]
    by_cases g : ls[i].length = 32
    · refine ev_pos (by omega) ?_
      rw [w64s (by omega)]
      refine ev_eq (ih (i + 1) (by omega)) ?_
      rw [Bool.eq_iff_iff, decide_eq_true_iff, decide_eq_true_iff, List.drop_eq_getElem_cons hlt]
      unfold All32
      constructor
      · intro hh l hl
        rcases List.mem_cons.1 hl with rfl | hl
        · exact g
        · exact hh l hl
      · intro hh l hl
        exact hh l (List.mem_cons_of_mem _ hl)
    · refine ev_neg (by omega) (ev_now ?_)
      rw [decide_eq_false]
      rw [List.drop_eq_getElem_cons hlt]
      exact fun hh => g (hh _ List.mem_cons_self)
/-- A proof of the right form: its place, its length, its parts. -/
def Right (n p : Int) (L : List Bool) (ls : List (List Int)) : Prop := Placed n p ∧ ls.length = L.length ∧ All32 ls
instance (n p : Int) (L : List Bool) (ls : List (List Int)) : Decidable (Right n p L ls) := by unfold Right; infer_instance
theorem impl_isProof_ev (n p : Int) (L : List Bool) (h : Placed n p → Ev (fun k => impl_sides.f k n p) L) (ls : List (List Int)) : Ev (fun k => impl_isProof.f k p n ls) (decide (Right n p L ls)) := by
  unfold impl_isProof.f
  refine ev_bind (impl_pathLength_ev n p L h) ?_
  by_cases hp : Placed n p
  · rw [if_pos hp]
    refine ev_pos rfl ?_
    by_cases hl : ls.length = L.length
    · refine ev_pos (show (L.length : Int) = (ls.length : Int) by omega) (ev_bind (ev_now (areDigests_eq ls)) (ev_now ?_))
      congr 1
      rw [Bool.eq_iff_iff, decide_eq_true_iff, decide_eq_true_iff]
      exact ⟨fun g => ⟨hp, hl, g⟩, fun g => g.2.2⟩
    · exact ev_neg (show ¬ (L.length : Int) = (ls.length : Int) by omega) (ev_now (by rw [decide_eq_false (fun g : Right n p L ls => hl g.2.1)]))
  · rw [if_neg hp]
    exact ev_neg (show ¬ (3 : Int) = 0 by decide) (ev_now (by rw [decide_eq_false (fun g : Right n p L ls => hp g.1)]))
theorem spec_right_ev (n p : Int) (L : List Bool) (h : Placed n p → Ev (fun k => spec_l3Sides.f k n p) (L.map not)) (ls : List (List Int)) (hl : ls.length ≤ 11728124029610) : Ev (fun k => spec_l3Right.f k p n ls) (decide (Right n p L ls)) := by
  unfold spec_l3Right.f
  refine ev_bind (spec_pathLength_ev n p L h) ?_
  by_cases hp : Placed n p
  · rw [if_pos hp]
    refine ev_pos rfl (ev_step (fun k => spec_l3Right.j0.eq_2 _ _ _ _ _) ?_)
    by_cases hl2 : ls.length = L.length
    · refine ev_neg (show ¬ ((ls.length : Int) != (L.length : Int)) = true by simp [hl2]) ?_
      refine ev_eq (l3Right_l0 ls hl p n ls.length 0 (by omega)) ?_
      rw [List.drop_zero, Bool.eq_iff_iff, decide_eq_true_iff, decide_eq_true_iff]
      exact ⟨fun g => ⟨hp, hl2, g⟩, fun g => g.2.2⟩
    · exact ev_pos (show ((ls.length : Int) != (L.length : Int)) = true from bne_iff_ne.2 (by omega)) (ev_now (by rw [decide_eq_false (fun g : Right n p L ls => hl2 g.2.1)]))
  · rw [if_neg hp]
    exact ev_neg (show ¬ (3 : Int) = 0 by decide) (ev_step (fun k => spec_l3Right.j0.eq_2 _ _ _ _ _) (ev_pos rfl (ev_now (by rw [decide_eq_false (fun g : Right n p L ls => hp g.1)]))))
theorem sides_any (n p : Int) : ∃ L : List Bool, L.length ≤ 15 ∧ (Placed n p → Ev (fun k => impl_sides.f k n p) L) ∧ (Placed n p → Ev (fun k => spec_l3Sides.f k n p) (L.map not)) := by
  by_cases h : Placed n p
  · obtain ⟨L, h1, h2, h3⟩ := sides_ex n p h
    exact ⟨L, by omega, fun _ => h2, fun _ => h3⟩
  · exact ⟨[], by simp, fun g => absurd g h, fun g => absurd g h⟩
end Go.Proofs.Ytmmhghddldhogaa.S

/- What the laws' markByteS and heldByteS come to: places are numbered from a start on, and found numbered so. For every slice and start that fit. -/
set_option linter.unusedVariables false
namespace Go.Proofs.Ytmmhghddldhogaa.S
open Go.RowKit Go.Proofs.YtmmhghddldhogaaW.PrintWords Go.Proofs.YtmmhghddldhogaaW.PrintLast Go.Proofs.YtmmhghddldhogaaW.PrintMore Go.Proofs.Ytmmhghddldhogaa.Base

/-- n places numbered from a on. -/
def marked (a : Int) (n : Nat) : List Int := (List.range n).map fun (j : Nat) => (a + (j : Int)) % 256
theorem marked_length (a : Int) (n : Nat) : (marked a n).length = n := by simp [marked]
theorem marked_at (a : Int) (n j : Nat) (h : j < n) : (marked a n)[j]? = some ((a + (j : Int)) % 256) := by
  simp [marked, List.getElem?_map, List.getElem?_range h]
theorem markByteS_l0 (a : Int) (n : Nat) (h0 : 0 ≤ a) (h1 : a + n ≤ 4611686018427387904) : ∀ (d i : Nat) (x : List Int), i + d = n → x.length = n → (∀ j, j < i → x[j]? = (marked a n)[j]?) → Ev (fun k => laws_markByteS.l0 k x (a + (i : Int)) (i : Int)) (a + (n : Int), marked a n) := by
  intro d
  induction d with
  | zero =>
    intro i x hi hx hj
    refine ev_step (fun k => laws_markByteS.l0.eq_2 _ _ _ _) (ev_neg (by omega) ?_)
    have e : x = marked a n := fill_all (by rw [marked_length]; exact hx) (fun j h => hj j (by rw [marked_length] at h; omega))
    rw [e, show i = n by omega]
    exact ev_now rfl
  | succ d ih =>
    intro i x hi hx hj
    refine ev_step (fun k => laws_markByteS.l0.eq_2 _ _ _ _) (ev_pos (by omega) (ev_pos (by omega) ?_))
    rw [w64s (by omega), w64 (n := a + (i : Int) + 1) (by omega) (by omega), Int.toNat_natCast, show a + (i : Int) + 1 = a + ((i + 1 : Nat) : Int) by omega]
    refine ih (i + 1) _ (by omega) (by rw [List.length_set]; exact hx) ?_
    intro j hj'
    rw [List.getElem?_set]
    by_cases e : i = j
    · subst e
      rw [if_pos rfl, if_pos (by omega), marked_at a n i (by omega)]
    · rw [if_neg e]; exact hj j (by omega)
theorem markByteS_ev (l : List Int) (a : Int) (h0 : 0 ≤ a) (h1 : a + l.length ≤ 4611686018427387904) : Ev (fun k => laws_markByteS.f k l a) (a + (l.length : Int), marked a l.length) := by
  have h := markByteS_l0 a l.length h0 h1 l.length 0 l (by omega) rfl (fun j h => by omega)
  rw [show a + ((0 : Nat) : Int) = a by omega] at h
  exact h
theorem heldByteS_l0 (a : Int) (n : Nat) (h0 : 0 ≤ a) (h1 : a + n ≤ 4611686018427387904) : ∀ (d i : Nat), i + d = n → Ev (fun k => laws_heldByteS.l0 k (marked a n) (a + (i : Int)) (i : Int)) (a + (n : Int)) := by
  intro d
  induction d with
  | zero =>
    intro i hi
    refine ev_step (fun k => laws_heldByteS.l0.eq_2 _ _ _ _) (ev_neg (by rw [marked_length]; omega) ?_)
    rw [show i = n by omega]
    exact ev_now rfl
  | succ d ih =>
    intro i hi
    refine ev_step (fun k => laws_heldByteS.l0.eq_2 _ _ _ _) (ev_pos (by rw [marked_length]; omega) (ev_pos (by omega) (ev_pos ?_ ?_)))
    · unfold rd
      rw [List.getD_eq_getElem?_getD, Int.toNat_natCast, marked_at a n i (by omega)]
      rfl
    · rw [w64s (by omega), w64 (n := a + (i : Int) + 1) (by omega) (by omega), show a + (i : Int) + 1 = a + ((i + 1 : Nat) : Int) by omega]
      exact ih (i + 1) (by omega)
theorem heldByteS_ev (n : Nat) (a : Int) (h0 : 0 ≤ a) (h1 : a + n ≤ 4611686018427387904) : Ev (fun k => laws_heldByteS.f k (marked a n) a) (a + (n : Int)) := by
  have h := heldByteS_l0 a n h0 h1 n 0 (by omega)
  rw [show a + ((0 : Nat) : Int) = a by omega] at h
  exact h
end Go.Proofs.Ytmmhghddldhogaa.S

/- Rows of rows of the call's own, no two of which share memory; where in memory they lie; what the laws' marks make of them. No condition beyond those in the statements. -/
set_option linter.unusedVariables false
set_option linter.unusedSimpArgs false
namespace Go.Proofs.Ytmmhghddldhogaa.S
open Go Go.RowKit Go.Proofs.YtmmhghddldhogaaW.PrintWords Go.Proofs.YtmmhghddldhogaaW.PrintLast Go.Proofs.YtmmhghddldhogaaW.PrintMore Go.Proofs.Ytmmhghddldhogaa.Base

def In (lo hi : Nat) : Nat → Prop := fun k => lo ≤ k ∧ k < hi
theorem In_apart {lo hi a b : Nat} (h : hi ≤ a ∨ b ≤ lo) : ∀ k, In lo hi k → ¬ In a b k := fun k h1 h2 => by
  unfold In at h1 h2
  omega
/-- A row that was made lies in the blocks that are new. -/
theorem F_in {α : Type} {d : Kd α} {e base : Nat} {ok : Nat → Prop} {w : World} {v : Value} {xs : List α} (h : d.R e w base ok v xs) : ∃ A c, v = .slice A xs.length c ∧ xs.length ≤ c ∧ Kd.F d w (In base w.heap.size) A xs.length xs := by
  obtain ⟨A, c, rfl⟩ := Kd.R_slice h
  exact ⟨A, c, rfl, (Kd.R_reads' h).2.1, Kd.F_mono (Kd.R_F (Kd.R_bound h)) (fun k hk => ⟨hk.2.1, hk.2.2.1⟩)⟩
theorem F_keptIn {α : Type} {d : Kd α} {w w1 : World} {lo hi a b n : Nat} {A : Option Addr} {xs : List α} (h : Kd.F d w (In lo hi) A n xs) (hk : Kept w w1 (In a b)) (hd : hi ≤ a ∨ b ≤ lo) : Kd.F d w1 (In lo hi) A n xs := Kd.F_kept h hk (In_apart hd)
theorem add_block (ad : Addr) (i : Nat) : (ad.add i).block = ad.block := by
  unfold Addr.add
  split <;> rfl
/-- Rows of bytes, each its own memory, all between lo and hi. -/
def AR (base : Nat) (w : World) (lo hi : Nat) (A : Option Addr) (ls : List (List Int)) : Prop :=
  ls.length ≤ 9223372036854775807 ∧ (ls = [] ∨ ∃ (ad : Addr) (vs : Nat → Value), A = some ad ∧ (lo ≤ ad.block ∧ ad.block < hi) ∧
    (∀ i, (h : i < ls.length) → w.cell? (ad.add i) = some (vs i) ∧ Kd.R (Kd.int .u8) 5 w base (fun k => some k = (vs i).ownBlock) (vs i) ls[i]) ∧
    (∀ i k, i < ls.length → (vs i).ownBlock = some k → (lo ≤ k ∧ k < hi) ∧ k ≠ ad.block) ∧
    (∀ i j k, i < ls.length → j < ls.length → i ≠ j → (vs i).ownBlock = some k → (vs j).ownBlock ≠ some k))
section
variable {base lo hi a b : Nat} {w w1 : World} {A : Option Addr} {ls : List (List Int)}
theorem AR.below (h : AR base w lo hi A ls) (hb : Below w.heap.size w w1) : AR base w1 lo hi A ls := by
  refine ⟨h.1, h.2.imp id ?_⟩
  rintro ⟨ad, vs, hA, hg, hr, hin, hap⟩
  exact ⟨ad, vs, hA, hg, fun i hi => ⟨(hb.cell (World.block_lt_of_cell? w _ (hr i hi).1)).trans (hr i hi).1, Kd.R_below (hr i hi).2 hb⟩, hin, hap⟩
theorem AR.kept (h : AR base w lo hi A ls) (hk : Kept w w1 (In a b)) (hd : hi ≤ a ∨ b ≤ lo) : AR base w1 lo hi A ls := by
  refine ⟨h.1, h.2.imp id ?_⟩
  rintro ⟨ad, vs, hA, hg, hr, hin, hap⟩
  exact ⟨ad, vs, hA, hg, fun i hi => ⟨cell_kept (hr i hi).1 hk (by rw [add_block]; exact In_apart hd _ hg), Kd.R_kept (hr i hi).2 hk (fun k hk2 => In_apart hd k (hin i k hi hk2.symm).1)⟩, hin, hap⟩
theorem AR.foot (h : AR base w lo hi A ls) : Kd.F (Kd.slice 5 (Kd.int .u8)) w (In lo hi) A ls.length ls := fun W' hW => by
  refine ⟨rfl, h.1, fun hp => ?_⟩
  rcases h.2 with rfl | ⟨ad, vs, hA, hg, hr, hin, hap⟩
  · simp at hp
  refine ⟨ad, hA, fun j p hj => ?_⟩
  obtain ⟨hjl, hpj⟩ := List.getElem?_eq_some_iff.1 hj
  obtain ⟨hc, hR⟩ := hr j hjl
  have hR2 : Kd.R (Kd.int .u8) 5 W' base (fun k => some k = (vs j).ownBlock) (vs j) ls[j] := Kd.R_step hR (fun k ho hlt => hW k (hin j k hjl ho.symm).1 hlt)
  rw [hpj] at hR2
  obtain ⟨A', c', hv⟩ := Kd.R_slice hR2
  rw [hv] at hR2
  obtain ⟨_, h2, h3⟩ := Kd.R_reads' hR2
  refine ⟨[vs j], rfl, ⟨A', c', by rw [hv], h2, h3⟩, fun i u hu => ?_⟩
  cases i with
  | zero =>
    have e1 : vs j = u := by simpa using hu
    rw [← e1]
    show W'.cell? (ad.add (j * 1 + 0)) = _
    rw [Nat.mul_one, Nat.add_zero]
    have hb := hW ad.block hg (by have := World.block_lt_of_cell? w _ hc; rwa [add_block] at this)
    rw [← hc]
    unfold World.cell?
    rw [add_block, hb]
  | succ i => simp at hu
/-- A cut of such rows. -/
theorem AR.drop (h : AR base w lo hi A ls) (m c : Nat) (hm : m ≤ ls.length) (hc : ls.length ≤ c) : AR base w lo hi (if c = m then A else A.map (·.add m)) (ls.drop m) := by
  refine ⟨by have := h.1; rw [List.length_drop]; omega, ?_⟩
  rcases h.2 with rfl | ⟨ad, vs, hA, hg, hr, hin, hap⟩
  · exact .inl (by simp)
  by_cases hz : ls.length = m
  · exact .inl (List.drop_of_length_le (by omega))
  refine .inr ⟨ad.add m, fun i => vs (m + i), by rw [if_neg (by omega), hA]; rfl, by rw [add_block]; exact hg, fun i hi => ?_, fun i k hi hk => ?_, fun i j k hi hj hij hk => ?_⟩
  · have hi2 : m + i < ls.length := by rw [List.length_drop] at hi; omega
    obtain ⟨h1, h2⟩ := hr (m + i) hi2
    have ha : (ad.add m).add i = ad.add (m + i) := by
      unfold Addr.add
      by_cases h1 : m = 0 <;> by_cases h2 : i = 0 <;> simp [h1, h2, Nat.add_assoc]
    refine ⟨by rw [ha]; exact h1, ?_⟩
    rw [List.getElem_drop]
    exact h2
  · rw [List.length_drop] at hi
    rw [add_block]
    exact hin (m + i) k (by omega) hk
  · rw [List.length_drop] at hi hj
    exact hap (m + i) (m + j) k (by omega) (by omega) (by omega) hk
theorem AR.take (h : AR base w lo hi A ls) (m : Nat) : AR base w lo hi A (ls.take m) := by
  refine ⟨by have := h.1; rw [List.length_take]; omega, ?_⟩
  rcases h.2 with rfl | ⟨ad, vs, hA, hg, hr, hin, hap⟩
  · exact .inl (by simp)
  refine .inr ⟨ad, vs, hA, hg, fun i hi => ?_, fun i k hi hk => ?_, fun i j k hi hj hij hk => ?_⟩
  · rw [List.length_take] at hi
    rw [List.getElem_take]
    exact hr i (by omega)
  · rw [List.length_take] at hi
    exact hin i k (by omega) hk
  · rw [List.length_take] at hi hj
    exact hap i j k (by omega) (by omega) hij hk
theorem AR.nil (base : Nat) (w : World) (lo hi : Nat) (A : Option Addr) : AR base w lo hi A [] := ⟨by simp, .inl rfl⟩
end
/-- What the printed walks call apart is so. -/
theorem AR_of_S {e base base0 : Nat} {ok : Nat → Prop} {w : World} {v : Value} {ls : List (List Int)} (h : Kd.S (Kd.slice 5 (Kd.int .u8)) e w base0 ok v ls) (hb : base ≤ base0) :
    ∃ A c, v = .slice A ls.length c ∧ ls.length ≤ c ∧ AR base w base0 w.heap.size A ls := by
  have hR := Kd.S_R h
  obtain ⟨A, c, rfl⟩ := Kd.R_slice hR
  obtain ⟨_, hc, hC⟩ := Kd.R_reads' hR
  refine ⟨A, c, rfl, hc, hC.2.1, ?_⟩
  by_cases hz : ls = []
  · exact .inl hz
  have hp : 0 < ls.length := by cases ls with
    | nil => exact absurd rfl hz
    | cons x l => simp
  obtain ⟨f, hf⟩ := h
  obtain ⟨g, cap, hv, hg0, hg1, cells, hcells⟩ := Kd.R_form hR hp
  injection hv with hv1 hv2 hv3
  subst hv1
  have each : ∀ i, (hi : i < ls.length) → ∃ u, w.cell? ⟨g, i, none⟩ = some u ∧ Kd.R (Kd.int .u8) 5 w base0 (fun k => (ok k ∧ k ≠ g) ∧ f k = i) u ls[i] := fun i hi => by
    obtain ⟨cs, hcl, hM, hcc, _⟩ := Kd.R_elem (d := Kd.tag f (Kd.slice 5 (Kd.int .u8))) hf ([], 0) (i : Int) (by omega) (by omega)
    have e1 : ls.zipIdx.getD (i : Int).toNat ([], 0) = (ls[i], i) := by
      rw [Int.toNat_natCast, List.getD_eq_getElem?_getD, Kd.zip_at (List.getElem?_eq_getElem hi)]
      rfl
    rw [e1] at hM
    obtain ⟨u, rfl, hu⟩ := hM
    refine ⟨u, ?_, hu⟩
    have h1 := hcc 0 u rfl
    rw [Int.toNat_natCast] at h1
    have h2 : w.cell? ⟨g, i * 1 + 0, none⟩ = some u := h1
    rwa [Nat.mul_one, Nat.add_zero] at h2
  refine .inr ⟨⟨g, 0, none⟩, fun i => (w.cell? ⟨g, i, none⟩).getD (.bool false), rfl, ⟨hg0, hg1⟩, fun i hi => ?_, fun i k hi hk => ?_, fun i j k hi hj hij hk hk2 => ?_⟩
  · obtain ⟨u, hu, hr⟩ := each i hi
    rw [add_plain]
    simp only [hu, Option.getD_some]
    exact ⟨trivial, Kd.R_lower (Kd.R_tight rfl hr) hb⟩
  · obtain ⟨u, hu, hr⟩ := each i hi
    simp only [hu, Option.getD_some] at hk
    have := (Kd.R_bound hr).1 k hk
    exact ⟨⟨this.2.1, this.2.2.1⟩, this.1.1.2⟩
  · obtain ⟨u, hu, hr⟩ := each i hi
    obtain ⟨u2, hu2, hr2⟩ := each j hj
    simp only [hu, Option.getD_some] at hk
    simp only [hu2, Option.getD_some] at hk2
    have h1 := (hr.1 k hk).2
    have h2 := (hr2.1 k hk2).2
    omega
/-! The marks. -/
def markAll (a : Int) : List (List Int) → List (List Int)
  | [] => []
  | l :: r => marked a l.length :: markAll (a + (l.length : Int)) r
theorem markAll_length : ∀ (ls : List (List Int)) (a : Int), (markAll a ls).length = ls.length
  | [], _ => rfl
  | l :: r, a => by simp [markAll, markAll_length r]
/-- Where row i's marks begin. -/
def offs (ls : List (List Int)) (i : Nat) : Nat := (ls.take i).flatten.length
theorem offs_step (ls : List (List Int)) (i : Nat) (h : i < ls.length) : offs ls (i + 1) = offs ls i + ls[i].length := by
  unfold offs
  rw [List.take_succ_eq_append_getElem h, List.flatten_append, List.length_append]
  simp
theorem offs_le (ls : List (List Int)) (i : Nat) : offs ls i ≤ ls.flatten.length := by
  unfold offs
  have h := congrArg List.length (congrArg List.flatten (List.take_append_drop i ls))
  rw [List.flatten_append, List.length_append] at h
  omega
theorem markAll_get : ∀ (ls : List (List Int)) (a : Int) (i : Nat) (h : i < ls.length), (markAll a ls)[i]? = some (marked (a + (offs ls i : Int)) ls[i].length)
  | [], _, i, h => by simp at h
  | l :: r, a, 0, h => by simp [markAll, offs]
  | l :: r, a, i + 1, h => by
    have h2 : i < r.length := by simpa using h
    have e : offs (l :: r) (i + 1) = l.length + offs r i := by simp [offs]
    show (markAll (a + (l.length : Int)) r)[i]? = _
    rw [markAll_get r (a + (l.length : Int)) i h2, e]
    simp only [List.getElem_cons_succ]
    rw [show a + (l.length : Int) + (offs r i : Int) = a + ((l.length + offs r i : Nat) : Int) by omega]
def midSS (a : Int) (ls : List (List Int)) (i : Nat) : List (List Int) := (markAll a ls).take i ++ ls.drop i
theorem midSS_length (a : Int) (ls : List (List Int)) (i : Nat) (h : i ≤ ls.length) : (midSS a ls i).length = ls.length := by
  simp [midSS, markAll_length]
  omega
theorem midSS_get (a : Int) (ls : List (List Int)) (i : Nat) (h : i < ls.length) : (midSS a ls i)[i]? = some ls[i] := by
  have hl : ((markAll a ls).take i).length = i := by rw [List.length_take, markAll_length]; omega
  unfold midSS
  rw [List.getElem?_append_right (by omega), hl, Nat.sub_self, List.getElem?_drop]
  simp [h]
theorem midSS_step (a : Int) (ls : List (List Int)) (i : Nat) (h : i < ls.length) : (midSS a ls i).set i (marked (a + (offs ls i : Int)) ls[i].length) = midSS a ls (i + 1) := by
  have hl : ((markAll a ls).take i).length = i := by rw [List.length_take, markAll_length]; omega
  have hg := markAll_get ls a i h
  have hlt : i < (markAll a ls).length := by rw [markAll_length]; exact h
  rw [List.getElem?_eq_getElem hlt] at hg
  have hg := Option.some.inj hg
  unfold midSS
  rw [List.set_append_right _ _ (by omega), hl, Nat.sub_self, List.drop_eq_getElem_cons h, List.set_cons_zero, List.take_succ_eq_append_getElem hlt, hg, List.append_assoc]
  rfl
theorem midSS_all (a : Int) (ls : List (List Int)) : midSS a ls ls.length = markAll a ls := by
  unfold midSS
  rw [List.take_of_length_le (by rw [markAll_length]; exact Nat.le_refl _), List.drop_of_length_le (Nat.le_refl _), List.append_nil]
/-- One row is written. -/
theorem AR.put {base lo hi : Nat} {w w1 : World} {ad : Addr} {vs : Nat → Value} {ls : List (List Int)} {i : Nat} {l2 : List Int} (hlen : ls.length ≤ 9223372036854775807) (hg : lo ≤ ad.block ∧ ad.block < hi)
    (hr : ∀ i, (h : i < ls.length) → w.cell? (ad.add i) = some (vs i) ∧ Kd.R (Kd.int .u8) 5 w base (fun k => some k = (vs i).ownBlock) (vs i) ls[i])
    (hin : ∀ i k, i < ls.length → (vs i).ownBlock = some k → (lo ≤ k ∧ k < hi) ∧ k ≠ ad.block)
    (hap : ∀ i j k, i < ls.length → j < ls.length → i ≠ j → (vs i).ownBlock = some k → (vs j).ownBlock ≠ some k)
    (hi_ : i < ls.length) (h2 : Kd.R (Kd.int .u8) 5 w1 base (fun k => some k = (vs i).ownBlock) (vs i) l2) (hk : Kept w w1 (fun k => some k = (vs i).ownBlock)) :
    (∀ j, (h : j < (ls.set i l2).length) → w1.cell? (ad.add j) = some (vs j) ∧ Kd.R (Kd.int .u8) 5 w1 base (fun k => some k = (vs j).ownBlock) (vs j) (ls.set i l2)[j]) := by
  intro j hj
  have hj2 : j < ls.length := by simpa using hj
  obtain ⟨hc, hR⟩ := hr j hj2
  refine ⟨cell_kept hc hk (by rw [add_block]; exact fun e => (hin i _ hi_ e.symm).2 rfl), ?_⟩
  rw [List.getElem_set]
  split
  · rename_i e
    subst e
    exact h2
  · rename_i e
    exact Kd.R_kept hR hk (fun k hk1 hk2 => hap i j k hi_ hj2 e hk2.symm hk1.symm)
end Go.Proofs.Ytmmhghddldhogaa.S
namespace Go.Proofs.Ytmmhghddldhogaa.S
open Go Go.RowKit Go.Proofs.YtmmhghddldhogaaW.PrintWords Go.Proofs.YtmmhghddldhogaaW.PrintLast Go.Proofs.YtmmhghddldhogaaW.PrintMore Go.Proofs.Ytmmhghddldhogaa.Base
/-- Where a walk stands still: its goal under a word. -/
def Hold (p : Prop) : Prop := p
theorem hold_here {p : Prop} (h : Hold p) : p := h
theorem hold_go {p : Prop} (h : p) : Hold p := h
theorem AR.drewN {base lo hi : Nat} {w : World} {A : Option Addr} {ls : List (List Int)} (h : AR base w lo hi A ls) (n : Nat) : AR base (w.drewN n) lo hi A ls := h.below (pw_below_drewN (Below.refl _ _) n)
theorem AR.drew {base lo hi : Nat} {w : World} {A : Option Addr} {ls : List (List Int)} (h : AR base w lo hi A ls) : AR base w.drew lo hi A ls := h.below (below_drew1 (Below.refl _ _))
theorem AR.alloc {base lo hi : Nat} {w : World} {A : Option Addr} {ls : List (List Int)} (h : AR base w lo hi A ls) (o : Obj) : AR base (w.alloc o) lo hi A ls := h.below (below_alloc (Below.refl _ _) o)
/-- A row of bytes of the call's own, between lo and hi. -/
theorem B_of_R {e base base0 : Nat} {ok : Nat → Prop} {w : World} {v : Value} {xs : List Int} (h : Kd.R (Kd.int .u8) e w base0 ok v xs) (hb : base ≤ base0) :
    ∃ A c, v = .slice A xs.length c ∧ Kd.R (Kd.int .u8) e w base (In base0 w.heap.size) (.slice A xs.length c) xs := by
  obtain ⟨A, c, rfl⟩ := Kd.R_slice h
  exact ⟨A, c, rfl, Kd.R_lower (Kd.R_mono (Kd.R_bound h) (fun k hk => ⟨hk.2.1, hk.2.2.1⟩)) hb⟩
theorem B_kept {e base lo hi a b : Nat} {w w1 : World} {v : Value} {xs : List Int} (h : Kd.R (Kd.int .u8) e w base (In lo hi) v xs) (hk : Kept w w1 (In a b)) (hd : hi ≤ a ∨ b ≤ lo) : Kd.R (Kd.int .u8) e w1 base (In lo hi) v xs := Kd.R_kept h hk (In_apart hd)
theorem B_tight {e base lo hi : Nat} {ok : Nat → Prop} {w w0 : World} {v : Value} {xs ys : List Int} (h0 : Kd.R (Kd.int .u8) e w0 base (In lo hi) v ys) (h : Kd.R (Kd.int .u8) e w base ok v xs) : Kd.R (Kd.int .u8) e w base (In lo hi) v xs := Kd.R_mono (Kd.R_tight rfl h) (fun k hk => h0.1 k hk.symm)
theorem blk_keptIn {g a b : Nat} {w w1 : World} {o : Obj} (h : w.heap[g]? = some o) (hk : Kept w w1 (In a b)) (hd : g < a ∨ b ≤ g) : w1.heap[g]? = some o := blk_kept h hk (fun h2 => by unfold In at h2; omega)
theorem row_store {P : Program} {ops : Array Oper} {rest : List Oper} {o : Oper} {a : Act} {w w0 : World} {B : Nat} {Q : Exit → Act → World → Prop} (hgd : o.guard = none) (ty : TypeId) (x y : Operand) (ho : o.op = .store ty x y)
    (g : Nat) (cells : Array Value) (hx : a.eval x = .pointer (some ⟨g, 0, none⟩)) (hy : a.eval y = .agg cells)
    (t : TypeId) (old : Array Value) (hg : w.heap[g]? = some (.cells old t (0, 0))) (hi : (P.info? ty).map (·.size) = some cells.size)
    (hold : old.size = cells.size) (h1 : cells.all (·.oneCell') = true) (hd : o.dst = none) (hb : Below B w0 w) (hB : B ≤ g)
    (h : ∀ w1 : World, w1.heap[g]? = some (.cells cells t (0, 0)) → Kept w w1 (In g (g + 1)) → Below B w0 w1 → wpList P ops Q rest a w1) : wpList P ops Q (o :: rest) a w := by
  refine wpList_store_row hgd ty x y ho g cells hx hy t old hg hi hold h1 ?_
  rw [hd]
  exact h _ (setRow_heap w g old cells t (0, 0) hg) ⟨by simp [World.setRow], fun k hk hn => setRow_other w g k cells (fun e => hn (by subst e; exact ⟨Nat.le_refl _, Nat.lt_succ_self _⟩))⟩ (below_setRow hb hB cells)
end Go.Proofs.Ytmmhghddldhogaa.S

/- Steps of regions that draw their order: a box made, a struct stored, a whole array loaded; words that are read. No condition beyond those in the statements. -/
set_option linter.unusedVariables false
set_option linter.unusedSimpArgs false
namespace Go.Proofs.Ytmmhghddldhogaa.S
open Go Go.RowKit Go.Proofs.YtmmhghddldhogaaW.PrintWords Go.Proofs.YtmmhghddldhogaaW.PrintLast Go.Proofs.YtmmhghddldhogaaW.PrintMore Go.Proofs.Ytmmhghddldhogaa.Base

theorem box_stepK {P : Program} {ops : Array Oper} {Q : Exit → Act → World → Prop} {oi : Oper} {N : Option Tmp} {a : Act} {W : World} {K : Act → World → Prop} {cs : Array Value} {t : TypeId} (hw : Region.wanted oi (yielded ops a.tmps) = true) (hN : oi.dst = N)
    (hrun : (execOp a.eval oi).run P W = .ok (.value (.pointer (some ⟨W.heap.size, 0, none⟩))) (W.alloc (.cells cs t (0, 0))))
    (h : ∀ g, g = W.heap.size → ∀ w1, w1.heap[g]? = some (.cells cs t (0, 0)) → Below W.heap.size W w1 → K (a.put N (.pointer (some ⟨g, 0, none⟩))) w1) : if Region.wanted oi (yielded ops a.tmps) = true then Oper.wp P oi a W K Q else K (a.put N undef) W :=
  value_ hw hN hrun (h _ rfl _ (blk_new W _) (below_alloc (Below.refl _ _) _))
theorem row_stepK {P : Program} {ops : Array Oper} {Q : Exit → Act → World → Prop} {o : Oper} {a : Act} {w w0 : World} {B : Nat} {K : Act → World → Prop} (hw : Region.wanted o (yielded ops a.tmps) = true) (ty : TypeId) (x y : Operand) (ho : o.op = .store ty x y)
    (g : Nat) (cells : Array Value) (hx : a.eval x = .pointer (some ⟨g, 0, none⟩)) (hy : a.eval y = .agg cells)
    (t : TypeId) (old : Array Value) (hg : w.heap[g]? = some (.cells old t (0, 0))) (hi : (P.info? ty).map (·.size) = some cells.size)
    (hold : old.size = cells.size) (h1 : cells.all (·.oneCell') = true) (hd : o.dst = none) (hb : Below B w0 w) (hB : B ≤ g)
    (h : ∀ w1 : World, w1.heap[g]? = some (.cells cells t (0, 0)) → Kept w w1 (In g (g + 1)) → Below B w0 w1 → K a w1) : if Region.wanted o (yielded ops a.tmps) = true then Oper.wp P o a w K Q else K (a.put none undef) w := by
  rw [if_pos hw]
  refine wp_store_row ty x y ho g cells hx hy t old hg hi hold h1 ?_
  rw [hd]
  exact h _ (setRow_heap w g old cells t (0, 0) hg) ⟨by simp [World.setRow], fun k hk hn => setRow_other w g k cells (fun e => hn (by subst e; exact ⟨Nat.le_refl _, Nat.lt_succ_self _⟩))⟩ (below_setRow hb hB cells)
theorem load_row_runK {P : Program} {o : Oper} {a : Act} (ty : TypeId) (x : Operand) (ho : o.op = .load ty x) (g : Nat) (hx : a.eval x = .pointer (some ⟨g, 0, none⟩)) {w : World} (t : TypeId) (cs : Array Value) (fr : Nat × Nat) (d : TypeDesc) (hg : w.heap[g]? = some (.cells cs t fr))
    (hu : P.underlying ty = some d) (hd : (match d with | .struct _ | .array _ _ => true | _ => false) = true) (hi : (P.info? ty).map (·.size) = some cs.size) : (execOp a.eval o).run P w = .ok (.value (.agg cs)) w := by
  unfold execOp
  simp only [ho, hx, Instr.loadAt, Instr.sureAddr, Sem.run_bind, Sem.run_pure, Result.andThen_ok, run_loadVar_row w g t ty cs fr d hg hu hd hi]
theorem word_at {w : World} {A : Option Addr} {ls : List (List Int)} (h : Kd.C (Kd.slice 5 (Kd.int .u8)) w A ls.length ls) (i : Nat) (hi : i < ls.length) : ∃ ad A0 c0, A = some ad ∧ w.cell? (ad.add i) = some (.slice A0 (ls[i]!).length c0) ∧ (ls[i]!).length ≤ c0 ∧ (Kd.int .u8).C w A0 (ls[i]!).length (ls[i]!) := by
  rw [getElem!_pos ls i hi]
  obtain ⟨ad, c, e, _, hK, hc0⟩ := Kd.C_get h ([] : List Int) (i : Int) (by omega) (by omega)
  have hc : ∀ j u, c[j]? = some u → w.cell? (ad.add (i * 1 + j)) = some u := hc0
  rw [Int.toNat_natCast, List.getD_eq_getElem?_getD, List.getElem?_eq_getElem hi, Option.getD_some] at hK
  obtain ⟨A0, c0, rfl, l0, g0⟩ := hK
  exact ⟨ad, A0, c0, e, by have hq := hc 0 _ rfl; rwa [Nat.mul_one, Nat.add_zero] at hq, l0, g0⟩
theorem byte_at {w : World} {A : Option Addr} {n : Nat} {x : Int} (h : (Kd.int .u8).C w A n [x]) : ∃ ad, A = some ad ∧ w.cell? ad = some (.int .u8 x) := by
  have hn : n = 1 := h.1.symm
  subst hn
  obtain ⟨ad, e, hc⟩ := Kd.at_int h 0 (by omega) (by omega)
  exact ⟨ad, e, by have h2 : w.cell? (ad.add 0) = _ := hc; rw [Addr.add_zero'] at h2; exact h2⟩
theorem AR.grow {base lo hi lo2 hi2 : Nat} {w : World} {A : Option Addr} {ls : List (List Int)} (h : AR base w lo hi A ls) (ha : lo2 ≤ lo) (hb : hi ≤ hi2) : AR base w lo2 hi2 A ls := by
  refine ⟨h.1, h.2.imp id ?_⟩
  rintro ⟨ad, vs, hA, hg, hr, hin, hap⟩
  exact ⟨ad, vs, hA, ⟨by omega, by omega⟩, hr, fun i k hi hk => ⟨⟨by have := (hin i k hi hk).1; omega, by have := (hin i k hi hk).1; omega⟩, (hin i k hi hk).2⟩, hap⟩
theorem AR.lower {base base2 lo hi : Nat} {w : World} {A : Option Addr} {ls : List (List Int)} (h : AR base w lo hi A ls) (hb : base2 ≤ base) : AR base2 w lo hi A ls := by
  refine ⟨h.1, h.2.imp id ?_⟩
  rintro ⟨ad, vs, hA, hg, hr, hin, hap⟩
  exact ⟨ad, vs, hA, hg, fun i hi => ⟨(hr i hi).1, Kd.R_lower (hr i hi).2 hb⟩, hin, hap⟩
end Go.Proofs.Ytmmhghddldhogaa.S

/- The walk over impl.UnpackProof: what it answers, way by way. No condition beyond those in the statements. -/
set_option linter.unusedVariables false
set_option linter.unusedSimpArgs false
namespace Go.Proofs.Ytmmhghddldhogaa.S
open Go Go.RowKit Go.Proofs.YtmmhghddldhogaaW.PrintWords Go.Proofs.YtmmhghddldhogaaW.PrintLast Go.Proofs.YtmmhghddldhogaaW.PrintMore Go.Proofs.Ytmmhghddldhogaa.Base
attribute [local go_sem] max2_int min2_int max_two min_two max_three min_three max_four min_four

set_option maxHeartbeats 80000000 in
set_option maxRecDepth 100000 in
theorem impl_UnpackProof_A (ku : Nat) (A0 : Option Addr) (c0 : Nat) (l0 : List Int) (q0 q1 : Int) (W : List (List Int)) (w : World) (hr0 : Kd.C (Kd.int .u8) w A0 l0.length l0) (hc0 : l0.length ≤ c0) (h_u : impl_UnpackWords.f ku l0 = some (q0, q1, W)) (h_n : W.length < 2) :
    Calls Try.prog 80 #[.slice A0 l0.length c0] w fun e w' => ∃ A c, e = .returned (.agg #[.int .i64 5, .int .i64 0, .int .i64 0, .slice A ([] : List (List Int)).length c]) ∧ ([] : List (List Int)).length ≤ c ∧ AR w.heap.size w' w.heap.size w'.heap.size A ([] : List (List Int)) ∧ Below w.heap.size w w' := by
  have hu1_ := Try.underlying95
  have hu2_ := Try.underlying89
  have hu3_ := Try.underlying50
  have HR0 := Aside0.mk hr0
  have HC0 := Aside0.mk hc0
  have H_u := Aside0.mk h_u
  have H_n := Aside0.mk h_n
  have HB := Aside0.mk (Below.refl w.heap.size w)
  have ZZ := Aside0.mk (Nat.le_refl w.heap.size)
  have hfd_2 := fun (a0 a1 a2 : Value) (w : World) => (show (Instr.field 50 (.agg #[a0, a1, a2]) 2).run Try.prog w = .ok a2 w from by kernel_rfl)
  have cn0_ : decide ((W.length : Int) < 2) = true := decide_eq_true (by omega)
  have cn1_ : decide (W.length < 2) = true := decide_eq_true h_n
  clear hr0 hc0 h_u h_n
  go_enter Try.func80, Try.ntmps80
  go_wp2_with (first | ((with_reducible refine gate_dst (N := 2) rfl ?_); refine hold_here ?_))
  refine hold_go ?_
  refine box_event (N := 2) (cs := #[.int .i64 0, .int .i64 0, .int .i64 0, .slice none 0 0]) (t := 95) ?hgb rfl ?hrb ?_
  case hgb => rfl
  case hrb => first | (go_simp; done) | (go_simp; rfl)
  intro g2_ hg w1_ hbox hb
  replace HB := Aside0.mk (below_step HB.out hb)
  replace ZZ := Aside0.mk (And.intro ZZ.out (show w.heap.size ≤ w1_.heap.size from hb.size))
  have BK2 := Aside0.mk hbox
  replace ZZ := Aside0.mk (And.intro ZZ.out (And.intro (show g2_ = w.heap.size from hg) (show g2_ < w1_.heap.size from blk_lt hbox)))
  clear hb hbox hg
  have hz_BK2_0 : w1_.cell? ⟨g2_, 0, none⟩ = some (.int .i64 0) := (blk_cell BK2.out 0).trans rfl
  have hz_BK2_1 : w1_.cell? ⟨g2_, 1, none⟩ = some (.int .i64 0) := (blk_cell BK2.out 1).trans rfl
  have hz_BK2_2 : w1_.cell? ⟨g2_, 2, none⟩ = some (.int .i64 0) := (blk_cell BK2.out 2).trans rfl
  have hz_BK2_3 : w1_.cell? ⟨g2_, 3, none⟩ = some (.slice none 0 0) := (blk_cell BK2.out 3).trans rfl
  go_wp2_with (first | (go_at_call 38; refine hold_here ?_))
  refine hold_go ?_
  refine (impl_UnpackWords.calls _ A0 c0 l0 q0 q1 W _ ?s1 ?s2 H_u.out).mono ?_
  case s1 => exact Kd.C_below HR0.out HB.out
  case s2 => exact HC0.out
  rintro e w2_ ⟨v, rfl, ho, hb⟩
  replace BK2 := Aside0.mk (blk_below BK2.out hb)
  replace HB := Aside0.mk (below_step HB.out hb)
  clear hz_BK2_0 hz_BK2_1 hz_BK2_2 hz_BK2_3
  replace ZZ := Aside0.mk (And.intro ZZ.out (show w1_.heap.size ≤ w2_.heap.size from hb.size))
  obtain ⟨A_WS, c_WS, ev_, hc_WS, hA_WS⟩ := AR_of_S (base := w.heap.size) ho (show w.heap.size ≤ w1_.heap.size from (by have h_ := ZZ.out; omega))
  subst ev_
  have HC_WS := Aside0.mk hc_WS
  have WS := Aside0.mk (show AR w.heap.size w2_ w1_.heap.size w2_.heap.size A_WS W from hA_WS)
  clear hc_WS hA_WS ho
  clear hb
  have hz_BK2_0 : w2_.cell? ⟨g2_, 0, none⟩ = some (.int .i64 0) := (blk_cell BK2.out 0).trans rfl
  have hz_BK2_1 : w2_.cell? ⟨g2_, 1, none⟩ = some (.int .i64 0) := (blk_cell BK2.out 1).trans rfl
  have hz_BK2_2 : w2_.cell? ⟨g2_, 2, none⟩ = some (.int .i64 0) := (blk_cell BK2.out 2).trans rfl
  have hz_BK2_3 : w2_.cell? ⟨g2_, 3, none⟩ = some (.slice none 0 0) := (blk_cell BK2.out 3).trans rfl
  go_wp2_with (first | ((with_reducible refine gate_store (t := 95) (p := 2) (v := .tmp 25) rfl ?_); refine hold_here ?_))
  refine hold_go ?_
  refine row_store rfl 95 (.tmp 2) (.tmp 25) rfl g2_ #[.int .i64 5, .int .i64 0, .int .i64 0, .slice none 0 0] rfl ?hy 95 _ BK2.out ?hi ?ho ?h1 rfl HB.out (show w.heap.size ≤ g2_ from (by have h_ := ZZ.out; omega)) ?_
  case hy => rfl
  case hi => kernel_rfl
  case ho => rfl
  case h1 => first | rfl | (simp [Value.oneCell']; done) | (go_simp; done)
  intro w3_ bo hk hb2
  clear BK2
  replace WS := Aside0.mk (AR.kept WS.out hk (by have h_ := ZZ.out; omega))
  replace HB := Aside0.mk hb2
  clear hz_BK2_0 hz_BK2_1 hz_BK2_2 hz_BK2_3
  replace ZZ := Aside0.mk (And.intro ZZ.out (show w2_.heap.size ≤ w3_.heap.size from hk.1))
  have BK2 := Aside0.mk bo
  clear bo hk hb2
  have hz_BK2_0 : w3_.cell? ⟨g2_, 0, none⟩ = some (.int .i64 5) := (blk_cell BK2.out 0).trans rfl
  have hz_BK2_1 : w3_.cell? ⟨g2_, 1, none⟩ = some (.int .i64 0) := (blk_cell BK2.out 1).trans rfl
  have hz_BK2_2 : w3_.cell? ⟨g2_, 2, none⟩ = some (.int .i64 0) := (blk_cell BK2.out 2).trans rfl
  have hz_BK2_3 : w3_.cell? ⟨g2_, 3, none⟩ = some (.slice none 0 0) := (blk_cell BK2.out 3).trans rfl
  go_wp2
  refine bodyPost_ret (results_cell_row rfl _ _ g2_ 95 #[.int .i64 5, .int .i64 0, .int .i64 0, .slice none 0 0] (0, 0) _ rfl BK2.out Try.underlying95 rfl (by kernel_rfl)) rfl ?_
  exact ⟨none, 0, rfl, Nat.le_refl _, AR.nil _ _ _ _ _, HB.out⟩
set_option maxHeartbeats 80000000 in
set_option maxRecDepth 100000 in
theorem impl_UnpackProof_B (ku : Nat) (A0 : Option Addr) (c0 : Nat) (l0 : List Int) (q0 q1 : Int) (W : List (List Int)) (w : World) (hr0 : Kd.C (Kd.int .u8) w A0 l0.length l0) (hc0 : l0.length ≤ c0) (h_u : impl_UnpackWords.f ku l0 = some (q0, q1, W)) (h_n : 2 ≤ W.length) (h_b : W[0]!.length ≠ 1) :
    Calls Try.prog 80 #[.slice A0 l0.length c0] w fun e w' => ∃ A c, e = .returned (.agg #[.int .i64 5, .int .i64 0, .int .i64 0, .slice A ([] : List (List Int)).length c]) ∧ ([] : List (List Int)).length ≤ c ∧ AR w.heap.size w' w.heap.size w'.heap.size A ([] : List (List Int)) ∧ Below w.heap.size w w' := by
  have hu1_ := Try.underlying95
  have hu2_ := Try.underlying89
  have hu3_ := Try.underlying50
  have HR0 := Aside0.mk hr0
  have HC0 := Aside0.mk hc0
  have H_u := Aside0.mk h_u
  have H_n := Aside0.mk h_n
  have H_b := Aside0.mk h_b
  have HB := Aside0.mk (Below.refl w.heap.size w)
  have ZZ := Aside0.mk (Nat.le_refl w.heap.size)
  have hfd_2 := fun (a0 a1 a2 : Value) (w : World) => (show (Instr.field 50 (.agg #[a0, a1, a2]) 2).run Try.prog w = .ok a2 w from by kernel_rfl)
  have cn0_ : decide ((W.length : Int) < 2) = false := decide_eq_false (by omega)
  have cn1_ : decide (W.length < 2) = false := decide_eq_false (by omega)
  have cn2_ : (0 < W.length) = True := eq_true (by omega)
  have cn3_ : (1 < W.length) = True := eq_true (by omega)
  have cn4_ : ((0 : Int) < (W.length : Int)) = True := eq_true (by omega)
  have cn5_ : ((1 : Int) < (W.length : Int)) = True := eq_true (by omega)
  have cn6_ : ((2 : Int) ≤ (W.length : Int)) = True := eq_true (by omega)
  have cn7_ : (2 ≤ W.length) = True := eq_true (by omega)
  clear hr0 hc0 h_u h_n h_b
  go_enter Try.func80, Try.ntmps80
  go_wp2_with (first | ((with_reducible refine gate_dst (N := 2) rfl ?_); refine hold_here ?_))
  refine hold_go ?_
  refine box_event (N := 2) (cs := #[.int .i64 0, .int .i64 0, .int .i64 0, .slice none 0 0]) (t := 95) ?hgb rfl ?hrb ?_
  case hgb => rfl
  case hrb => first | (go_simp; done) | (go_simp; rfl)
  intro g2_ hg w1_ hbox hb
  replace HB := Aside0.mk (below_step HB.out hb)
  replace ZZ := Aside0.mk (And.intro ZZ.out (show w.heap.size ≤ w1_.heap.size from hb.size))
  have BK2 := Aside0.mk hbox
  replace ZZ := Aside0.mk (And.intro ZZ.out (And.intro (show g2_ = w.heap.size from hg) (show g2_ < w1_.heap.size from blk_lt hbox)))
  clear hb hbox hg
  have hz_BK2_0 : w1_.cell? ⟨g2_, 0, none⟩ = some (.int .i64 0) := (blk_cell BK2.out 0).trans rfl
  have hz_BK2_1 : w1_.cell? ⟨g2_, 1, none⟩ = some (.int .i64 0) := (blk_cell BK2.out 1).trans rfl
  have hz_BK2_2 : w1_.cell? ⟨g2_, 2, none⟩ = some (.int .i64 0) := (blk_cell BK2.out 2).trans rfl
  have hz_BK2_3 : w1_.cell? ⟨g2_, 3, none⟩ = some (.slice none 0 0) := (blk_cell BK2.out 3).trans rfl
  go_wp2_with (first | (go_at_call 38; refine hold_here ?_))
  refine hold_go ?_
  refine (impl_UnpackWords.calls _ A0 c0 l0 q0 q1 W _ ?s1 ?s2 H_u.out).mono ?_
  case s1 => exact Kd.C_below HR0.out HB.out
  case s2 => exact HC0.out
  rintro e w2_ ⟨v, rfl, ho, hb⟩
  replace BK2 := Aside0.mk (blk_below BK2.out hb)
  replace HB := Aside0.mk (below_step HB.out hb)
  clear hz_BK2_0 hz_BK2_1 hz_BK2_2 hz_BK2_3
  replace ZZ := Aside0.mk (And.intro ZZ.out (show w1_.heap.size ≤ w2_.heap.size from hb.size))
  have hfo_ := Kd.S_form ho (by have := H_n.out; omega)
  obtain ⟨A_WS, c_WS, ev_, hc_WS, hA_WS⟩ := AR_of_S (base := w.heap.size) ho (show w.heap.size ≤ w1_.heap.size from (by have h_ := ZZ.out; omega))
  subst ev_
  have HC_WS := Aside0.mk hc_WS
  have WS := Aside0.mk (show AR w.heap.size w2_ w1_.heap.size w2_.heap.size A_WS W from hA_WS)
  clear hc_WS hA_WS ho
  obtain ⟨gw_, cw_, evw_, _⟩ := hfo_
  injection evw_ with eA_ _ eC_
  subst eA_ eC_
  clear hb
  have hz_BK2_0 : w2_.cell? ⟨g2_, 0, none⟩ = some (.int .i64 0) := (blk_cell BK2.out 0).trans rfl
  have hz_BK2_1 : w2_.cell? ⟨g2_, 1, none⟩ = some (.int .i64 0) := (blk_cell BK2.out 1).trans rfl
  have hz_BK2_2 : w2_.cell? ⟨g2_, 2, none⟩ = some (.int .i64 0) := (blk_cell BK2.out 2).trans rfl
  have hz_BK2_3 : w2_.cell? ⟨g2_, 3, none⟩ = some (.slice none 0 0) := (blk_cell BK2.out 3).trans rfl
  obtain ⟨ad_, B0_, d0_, eA_, hx0_, hl0_, hi0_⟩ := word_at (Kd.F_now (AR.foot WS.out)) 0 (by have := H_n.out; omega)
  obtain ⟨ad2_, B1_, d1_, eA2_, hx1_, hl1_, hi1_⟩ := word_at (Kd.F_now (AR.foot WS.out)) 1 (by have := H_n.out; omega)
  obtain rfl := Option.some.inj eA_
  obtain rfl := Option.some.inj eA2_
  rw [Addr.add_zero'] at hx0_
  replace hx1_ := (show w2_.cell? ⟨gw_, 1, none⟩ = _ from hx1_)
  obtain ⟨n0_, hn0_⟩ : ∃ n, W[0]!.length = n := ⟨_, rfl⟩
  rw [hn0_] at hx0_
  have cb_ : ((n0_ : Int) != 1) = true := bne_iff_ne.2 (by have := H_b.out; omega)
  clear hn0_ hl0_ hi0_ hl1_ hi1_ hx1_
  go_wp2_with (first | ((with_reducible refine gate_store (t := 95) (p := 2) (v := .tmp 25) rfl ?_); refine hold_here ?_))
  refine hold_go ?_
  refine row_store rfl 95 (.tmp 2) (.tmp 25) rfl g2_ #[.int .i64 5, .int .i64 0, .int .i64 0, .slice none 0 0] rfl ?hy 95 _ BK2.out ?hi ?ho ?h1 rfl HB.out (show w.heap.size ≤ g2_ from (by have h_ := ZZ.out; omega)) ?_
  case hy => rfl
  case hi => kernel_rfl
  case ho => rfl
  case h1 => first | rfl | (simp [Value.oneCell']; done) | (go_simp; done)
  intro w3_ bo hk hb2
  clear BK2
  replace WS := Aside0.mk (AR.kept WS.out hk (by have h_ := ZZ.out; omega))
  replace HB := Aside0.mk hb2
  clear hz_BK2_0 hz_BK2_1 hz_BK2_2 hz_BK2_3
  replace ZZ := Aside0.mk (And.intro ZZ.out (show w2_.heap.size ≤ w3_.heap.size from hk.1))
  have BK2 := Aside0.mk bo
  clear bo hk hb2
  have hz_BK2_0 : w3_.cell? ⟨g2_, 0, none⟩ = some (.int .i64 5) := (blk_cell BK2.out 0).trans rfl
  have hz_BK2_1 : w3_.cell? ⟨g2_, 1, none⟩ = some (.int .i64 0) := (blk_cell BK2.out 1).trans rfl
  have hz_BK2_2 : w3_.cell? ⟨g2_, 2, none⟩ = some (.int .i64 0) := (blk_cell BK2.out 2).trans rfl
  have hz_BK2_3 : w3_.cell? ⟨g2_, 3, none⟩ = some (.slice none 0 0) := (blk_cell BK2.out 3).trans rfl
  go_wp2
  refine bodyPost_ret (results_cell_row rfl _ _ g2_ 95 #[.int .i64 5, .int .i64 0, .int .i64 0, .slice none 0 0] (0, 0) _ rfl BK2.out Try.underlying95 rfl (by kernel_rfl)) rfl ?_
  exact ⟨none, 0, rfl, Nat.le_refl _, AR.nil _ _ _ _ _, HB.out⟩
set_option maxHeartbeats 80000000 in
set_option maxRecDepth 100000 in
theorem impl_UnpackProof_C (ku : Nat) (A0 : Option Addr) (c0 : Nat) (l0 : List Int) (q0 q1 : Int) (W : List (List Int)) (x : Int) (w : World) (hr0 : Kd.C (Kd.int .u8) w A0 l0.length l0) (hc0 : l0.length ≤ c0) (h_u : impl_UnpackWords.f ku l0 = some (q0, q1, W)) (h_n : 2 ≤ W.length) (h_x : W[0]! = [x]) (h_b : W[1]!.length ≠ 1) :
    Calls Try.prog 80 #[.slice A0 l0.length c0] w fun e w' => ∃ A c, e = .returned (.agg #[.int .i64 5, .int .i64 0, .int .i64 0, .slice A ([] : List (List Int)).length c]) ∧ ([] : List (List Int)).length ≤ c ∧ AR w.heap.size w' w.heap.size w'.heap.size A ([] : List (List Int)) ∧ Below w.heap.size w w' := by
  have hu1_ := Try.underlying95
  have hu2_ := Try.underlying89
  have hu3_ := Try.underlying50
  have HR0 := Aside0.mk hr0
  have HC0 := Aside0.mk hc0
  have H_u := Aside0.mk h_u
  have H_n := Aside0.mk h_n
  have H_x := Aside0.mk h_x
  have H_b := Aside0.mk h_b
  have HB := Aside0.mk (Below.refl w.heap.size w)
  have ZZ := Aside0.mk (Nat.le_refl w.heap.size)
  have hfd_2 := fun (a0 a1 a2 : Value) (w : World) => (show (Instr.field 50 (.agg #[a0, a1, a2]) 2).run Try.prog w = .ok a2 w from by kernel_rfl)
  have cn0_ : decide ((W.length : Int) < 2) = false := decide_eq_false (by omega)
  have cn1_ : decide (W.length < 2) = false := decide_eq_false (by omega)
  have cn2_ : (0 < W.length) = True := eq_true (by omega)
  have cn3_ : (1 < W.length) = True := eq_true (by omega)
  have cn4_ : ((0 : Int) < (W.length : Int)) = True := eq_true (by omega)
  have cn5_ : ((1 : Int) < (W.length : Int)) = True := eq_true (by omega)
  have cn6_ : ((2 : Int) ≤ (W.length : Int)) = True := eq_true (by omega)
  have cn7_ : (2 ≤ W.length) = True := eq_true (by omega)
  clear hr0 hc0 h_u h_n h_x h_b
  go_enter Try.func80, Try.ntmps80
  go_wp2_with (first | ((with_reducible refine gate_dst (N := 2) rfl ?_); refine hold_here ?_))
  refine hold_go ?_
  refine box_event (N := 2) (cs := #[.int .i64 0, .int .i64 0, .int .i64 0, .slice none 0 0]) (t := 95) ?hgb rfl ?hrb ?_
  case hgb => rfl
  case hrb => first | (go_simp; done) | (go_simp; rfl)
  intro g2_ hg w1_ hbox hb
  replace HB := Aside0.mk (below_step HB.out hb)
  replace ZZ := Aside0.mk (And.intro ZZ.out (show w.heap.size ≤ w1_.heap.size from hb.size))
  have BK2 := Aside0.mk hbox
  replace ZZ := Aside0.mk (And.intro ZZ.out (And.intro (show g2_ = w.heap.size from hg) (show g2_ < w1_.heap.size from blk_lt hbox)))
  clear hb hbox hg
  have hz_BK2_0 : w1_.cell? ⟨g2_, 0, none⟩ = some (.int .i64 0) := (blk_cell BK2.out 0).trans rfl
  have hz_BK2_1 : w1_.cell? ⟨g2_, 1, none⟩ = some (.int .i64 0) := (blk_cell BK2.out 1).trans rfl
  have hz_BK2_2 : w1_.cell? ⟨g2_, 2, none⟩ = some (.int .i64 0) := (blk_cell BK2.out 2).trans rfl
  have hz_BK2_3 : w1_.cell? ⟨g2_, 3, none⟩ = some (.slice none 0 0) := (blk_cell BK2.out 3).trans rfl
  go_wp2_with (first | (go_at_call 38; refine hold_here ?_))
  refine hold_go ?_
  refine (impl_UnpackWords.calls _ A0 c0 l0 q0 q1 W _ ?s1 ?s2 H_u.out).mono ?_
  case s1 => exact Kd.C_below HR0.out HB.out
  case s2 => exact HC0.out
  rintro e w2_ ⟨v, rfl, ho, hb⟩
  replace BK2 := Aside0.mk (blk_below BK2.out hb)
  replace HB := Aside0.mk (below_step HB.out hb)
  clear hz_BK2_0 hz_BK2_1 hz_BK2_2 hz_BK2_3
  replace ZZ := Aside0.mk (And.intro ZZ.out (show w1_.heap.size ≤ w2_.heap.size from hb.size))
  have hfo_ := Kd.S_form ho (by have := H_n.out; omega)
  obtain ⟨A_WS, c_WS, ev_, hc_WS, hA_WS⟩ := AR_of_S (base := w.heap.size) ho (show w.heap.size ≤ w1_.heap.size from (by have h_ := ZZ.out; omega))
  subst ev_
  have HC_WS := Aside0.mk hc_WS
  have WS := Aside0.mk (show AR w.heap.size w2_ w1_.heap.size w2_.heap.size A_WS W from hA_WS)
  clear hc_WS hA_WS ho
  obtain ⟨gw_, cw_, evw_, _⟩ := hfo_
  injection evw_ with eA_ _ eC_
  subst eA_ eC_
  clear hb
  have hz_BK2_0 : w2_.cell? ⟨g2_, 0, none⟩ = some (.int .i64 0) := (blk_cell BK2.out 0).trans rfl
  have hz_BK2_1 : w2_.cell? ⟨g2_, 1, none⟩ = some (.int .i64 0) := (blk_cell BK2.out 1).trans rfl
  have hz_BK2_2 : w2_.cell? ⟨g2_, 2, none⟩ = some (.int .i64 0) := (blk_cell BK2.out 2).trans rfl
  have hz_BK2_3 : w2_.cell? ⟨g2_, 3, none⟩ = some (.slice none 0 0) := (blk_cell BK2.out 3).trans rfl
  obtain ⟨ad_, B0_, d0_, eA_, hx0_, hl0_, hi0_⟩ := word_at (Kd.F_now (AR.foot WS.out)) 0 (by have := H_n.out; omega)
  obtain ⟨ad2_, B1_, d1_, eA2_, hx1_, hl1_, hi1_⟩ := word_at (Kd.F_now (AR.foot WS.out)) 1 (by have := H_n.out; omega)
  obtain rfl := Option.some.inj eA_
  obtain rfl := Option.some.inj eA2_
  rw [Addr.add_zero'] at hx0_
  replace hx1_ := (show w2_.cell? ⟨gw_, 1, none⟩ = _ from hx1_)
  rw [H_x.out] at hx0_
  obtain ⟨n1_, hn1_⟩ : ∃ n, W[1]!.length = n := ⟨_, rfl⟩
  rw [hn1_] at hx1_
  have cb_ : ((n1_ : Int) != 1) = true := bne_iff_ne.2 (by have := H_b.out; omega)
  simp only [List.length_cons, List.length_nil, Nat.zero_add] at hx0_
  clear hn1_ hl0_ hi0_ hl1_ hi1_
  go_wp2_with (first | ((with_reducible refine gate_store (t := 95) (p := 2) (v := .tmp 25) rfl ?_); refine hold_here ?_))
  refine hold_go ?_
  refine row_store rfl 95 (.tmp 2) (.tmp 25) rfl g2_ #[.int .i64 5, .int .i64 0, .int .i64 0, .slice none 0 0] rfl ?hy 95 _ BK2.out ?hi ?ho ?h1 rfl HB.out (show w.heap.size ≤ g2_ from (by have h_ := ZZ.out; omega)) ?_
  case hy => rfl
  case hi => kernel_rfl
  case ho => rfl
  case h1 => first | rfl | (simp [Value.oneCell']; done) | (go_simp; done)
  intro w3_ bo hk hb2
  clear BK2
  replace WS := Aside0.mk (AR.kept WS.out hk (by have h_ := ZZ.out; omega))
  replace HB := Aside0.mk hb2
  clear hz_BK2_0 hz_BK2_1 hz_BK2_2 hz_BK2_3
  replace ZZ := Aside0.mk (And.intro ZZ.out (show w2_.heap.size ≤ w3_.heap.size from hk.1))
  have BK2 := Aside0.mk bo
  clear bo hk hb2
  have hz_BK2_0 : w3_.cell? ⟨g2_, 0, none⟩ = some (.int .i64 5) := (blk_cell BK2.out 0).trans rfl
  have hz_BK2_1 : w3_.cell? ⟨g2_, 1, none⟩ = some (.int .i64 0) := (blk_cell BK2.out 1).trans rfl
  have hz_BK2_2 : w3_.cell? ⟨g2_, 2, none⟩ = some (.int .i64 0) := (blk_cell BK2.out 2).trans rfl
  have hz_BK2_3 : w3_.cell? ⟨g2_, 3, none⟩ = some (.slice none 0 0) := (blk_cell BK2.out 3).trans rfl
  go_wp2
  refine bodyPost_ret (results_cell_row rfl _ _ g2_ 95 #[.int .i64 5, .int .i64 0, .int .i64 0, .slice none 0 0] (0, 0) _ rfl BK2.out Try.underlying95 rfl (by kernel_rfl)) rfl ?_
  exact ⟨none, 0, rfl, Nat.le_refl _, AR.nil _ _ _ _ _, HB.out⟩
set_option maxHeartbeats 80000000 in
set_option maxRecDepth 100000 in
theorem impl_UnpackProof_D (ku : Nat) (A0 : Option Addr) (c0 : Nat) (l0 : List Int) (q0 q1 : Int) (W : List (List Int)) (x : Int) (y : Int) (ps : List (List Int)) (b : Bool) (kp : Nat) (w : World) (hr0 : Kd.C (Kd.int .u8) w A0 l0.length l0) (hc0 : l0.length ≤ c0) (h_u : impl_UnpackWords.f ku l0 = some (q0, q1, W)) (h_n : 2 ≤ W.length) (h_x : W[0]! = [x]) (h_y : W[1]! = [y]) (h_bx : 0 ≤ x ∧ x ≤ 255) (h_by : 0 ≤ y ∧ y ≤ 255) (h_d : W.drop 2 = ps) (h_p : impl_isProof.f kp x y ps = some b) :
    Calls Try.prog 80 #[.slice A0 l0.length c0] w fun e w' => ∃ A c, e = .returned (.agg #[.int .i64 (cond b 0 5), .int .i64 (cond b x 0), .int .i64 (cond b y 0), .slice A (cond b ps []).length c]) ∧ (cond b ps []).length ≤ c ∧ AR w.heap.size w' w.heap.size w'.heap.size A (cond b ps []) ∧ Below w.heap.size w w' := by
  have hu1_ := Try.underlying95
  have hu2_ := Try.underlying89
  have hu3_ := Try.underlying50
  have HR0 := Aside0.mk hr0
  have HC0 := Aside0.mk hc0
  have H_u := Aside0.mk h_u
  have H_n := Aside0.mk h_n
  have H_x := Aside0.mk h_x
  have H_y := Aside0.mk h_y
  have H_bx := Aside0.mk h_bx
  have H_by := Aside0.mk h_by
  have H_d := Aside0.mk h_d
  have H_p := Aside0.mk h_p
  have HB := Aside0.mk (Below.refl w.heap.size w)
  have ZZ := Aside0.mk (Nat.le_refl w.heap.size)
  have hfd_2 := fun (a0 a1 a2 : Value) (w : World) => (show (Instr.field 50 (.agg #[a0, a1, a2]) 2).run Try.prog w = .ok a2 w from by kernel_rfl)
  have cn0_ : decide ((W.length : Int) < 2) = false := decide_eq_false (by omega)
  have cn1_ : decide (W.length < 2) = false := decide_eq_false (by omega)
  have cn2_ : (0 < W.length) = True := eq_true (by omega)
  have cn3_ : (1 < W.length) = True := eq_true (by omega)
  have cn4_ : ((0 : Int) < (W.length : Int)) = True := eq_true (by omega)
  have cn5_ : ((1 : Int) < (W.length : Int)) = True := eq_true (by omega)
  have cn6_ : ((2 : Int) ≤ (W.length : Int)) = True := eq_true (by omega)
  have cn7_ : (2 ≤ W.length) = True := eq_true (by omega)
  clear hr0 hc0 h_u h_n h_x h_y h_bx h_by h_d h_p
  go_enter Try.func80, Try.ntmps80
  go_wp2_with (first | ((with_reducible refine gate_dst (N := 2) rfl ?_); refine hold_here ?_))
  refine hold_go ?_
  refine box_event (N := 2) (cs := #[.int .i64 0, .int .i64 0, .int .i64 0, .slice none 0 0]) (t := 95) ?hgb rfl ?hrb ?_
  case hgb => rfl
  case hrb => first | (go_simp; done) | (go_simp; rfl)
  intro g2_ hg w1_ hbox hb
  replace HB := Aside0.mk (below_step HB.out hb)
  replace ZZ := Aside0.mk (And.intro ZZ.out (show w.heap.size ≤ w1_.heap.size from hb.size))
  have BK2 := Aside0.mk hbox
  replace ZZ := Aside0.mk (And.intro ZZ.out (And.intro (show g2_ = w.heap.size from hg) (show g2_ < w1_.heap.size from blk_lt hbox)))
  clear hb hbox hg
  have hz_BK2_0 : w1_.cell? ⟨g2_, 0, none⟩ = some (.int .i64 0) := (blk_cell BK2.out 0).trans rfl
  have hz_BK2_1 : w1_.cell? ⟨g2_, 1, none⟩ = some (.int .i64 0) := (blk_cell BK2.out 1).trans rfl
  have hz_BK2_2 : w1_.cell? ⟨g2_, 2, none⟩ = some (.int .i64 0) := (blk_cell BK2.out 2).trans rfl
  have hz_BK2_3 : w1_.cell? ⟨g2_, 3, none⟩ = some (.slice none 0 0) := (blk_cell BK2.out 3).trans rfl
  go_wp2_with (first | (go_at_call 38; refine hold_here ?_))
  refine hold_go ?_
  refine (impl_UnpackWords.calls _ A0 c0 l0 q0 q1 W _ ?s1 ?s2 H_u.out).mono ?_
  case s1 => exact Kd.C_below HR0.out HB.out
  case s2 => exact HC0.out
  rintro e w2_ ⟨v, rfl, ho, hb⟩
  replace BK2 := Aside0.mk (blk_below BK2.out hb)
  replace HB := Aside0.mk (below_step HB.out hb)
  clear hz_BK2_0 hz_BK2_1 hz_BK2_2 hz_BK2_3
  replace ZZ := Aside0.mk (And.intro ZZ.out (show w1_.heap.size ≤ w2_.heap.size from hb.size))
  have hfo_ := Kd.S_form ho (by have := H_n.out; omega)
  obtain ⟨A_WS, c_WS, ev_, hc_WS, hA_WS⟩ := AR_of_S (base := w.heap.size) ho (show w.heap.size ≤ w1_.heap.size from (by have h_ := ZZ.out; omega))
  subst ev_
  have HC_WS := Aside0.mk hc_WS
  have WS := Aside0.mk (show AR w.heap.size w2_ w1_.heap.size w2_.heap.size A_WS W from hA_WS)
  clear hc_WS hA_WS ho
  obtain ⟨gw_, cw_, evw_, _⟩ := hfo_
  injection evw_ with eA_ _ eC_
  subst eA_ eC_
  clear hb
  have hz_BK2_0 : w2_.cell? ⟨g2_, 0, none⟩ = some (.int .i64 0) := (blk_cell BK2.out 0).trans rfl
  have hz_BK2_1 : w2_.cell? ⟨g2_, 1, none⟩ = some (.int .i64 0) := (blk_cell BK2.out 1).trans rfl
  have hz_BK2_2 : w2_.cell? ⟨g2_, 2, none⟩ = some (.int .i64 0) := (blk_cell BK2.out 2).trans rfl
  have hz_BK2_3 : w2_.cell? ⟨g2_, 3, none⟩ = some (.slice none 0 0) := (blk_cell BK2.out 3).trans rfl
  obtain ⟨ad_, B0_, d0_, eA_, hx0_, hl0_, hi0_⟩ := word_at (Kd.F_now (AR.foot WS.out)) 0 (by have := H_n.out; omega)
  obtain ⟨ad2_, B1_, d1_, eA2_, hx1_, hl1_, hi1_⟩ := word_at (Kd.F_now (AR.foot WS.out)) 1 (by have := H_n.out; omega)
  obtain rfl := Option.some.inj eA_
  obtain rfl := Option.some.inj eA2_
  rw [Addr.add_zero'] at hx0_
  replace hx1_ := (show w2_.cell? ⟨gw_, 1, none⟩ = _ from hx1_)
  rw [H_x.out] at hx0_ hi0_
  rw [H_y.out] at hx1_ hi1_
  simp only [List.length_cons, List.length_nil, Nat.zero_add] at hx0_ hx1_ hi0_ hi1_
  obtain ⟨b0_, e0_, hv0_⟩ := byte_at hi0_
  obtain ⟨b1_, e1_, hv1_⟩ := byte_at hi1_
  subst e0_ e1_
  clear hi0_ hi1_ hl0_ hl1_
  try go_wp2_with fail
  replace BK2 := Aside0.mk (blk_drew BK2.out)
  replace WS := Aside0.mk (AR.drew WS.out)
  replace HB := Aside0.mk (below_drew1 HB.out)
  replace ZZ := Aside0.mk (And.intro ZZ.out (show w2_.heap.size ≤ w2_.drew.heap.size from Nat.le_refl _))
  clear hz_BK2_0 hz_BK2_1 hz_BK2_2 hz_BK2_3
  refine start_ (n := 17) (S := fun w' => w'.cell? (⟨gw_, 0, none⟩) = some (.slice (some b0_) 1 d0_) ∧ w'.cell? (⟨gw_, 1, none⟩) = some (.slice (some b1_) 1 d1_) ∧ w'.cell? (b0_) = some (.int .u8 x) ∧ w'.cell? (b1_) = some (.int .u8 y)) (ds := [16]) #[false, false, false, false, false, false, false, false, false, false, false, false, false, false, false, false, false] (by kernel_rfl) rfl rfl ⟨hx0_, hx1_, hv0_, hv1_⟩ (fun hHeld => ?_)
  generalize w2_.drew = w3_ at BK2 WS HB ZZ hHeld ⊢
  clear hx0_ hx1_ hv0_ hv1_
  have HWX := Aside0.mk (w64 (n := x) (by have := H_bx.out; omega) (by have := H_bx.out; omega))
  have HWY := Aside0.mk (w64 (n := y) (by have := H_by.out; omega) (by have := H_by.out; omega))
  have hPS_ := AR.drop WS.out 2 c_WS H_n.out HC_WS.out
  rw [H_d.out] at hPS_
  obtain ⟨A_PS, eAP_⟩ : ∃ A : Option Addr, (if c_WS = 2 then some ⟨gw_, 0, none⟩ else some ⟨gw_, 2, none⟩) = A := ⟨_, rfl⟩
  rw [show (if c_WS = 2 then some (⟨gw_, 0, none⟩ : Addr) else (some (⟨gw_, 0, none⟩ : Addr)).map (·.add 2)) = A_PS from eAP_] at hPS_
  obtain ⟨c_PS, eCP_⟩ : ∃ c, c_WS - 2 = c := ⟨_, rfl⟩
  have hdl_ := congrArg List.length H_d.out
  rw [List.length_drop] at hdl_
  have HC_PS := Aside0.mk (show ps.length ≤ c_PS by have := HC_WS.out; omega)
  have PS := Aside0.mk hPS_
  have EAP := Aside0.mk eAP_
  have ECP := Aside0.mk eCP_
  have EDL := Aside0.mk hdl_
  clear hPS_ eAP_ eCP_ hdl_ WS
  refine pure_ (i := 0) (N := some 26) (v := ?_) (a' := ?_) #[true, false, false, false, false, false, false, false, false, false, false, false, false, false, false, false, false] rfl rfl (by kernel_rfl) (fun _ _ _ h => h) (Or.inl ⟨by rfl, ?_⟩) ?_ ?_
  rotate_left
  · intro w'
    go_simp
    with_reducible rfl
  rotate_left
  · simp only [Act.put, List.setIfInBounds_toArray, List.set_cons_zero, List.set_cons_succ, i64_w, i32_w]
    rfl
  refine pure_ (i := 1) (N := some 27) (v := ?_) (a' := ?_) #[true, true, false, false, false, false, false, false, false, false, false, false, false, false, false, false, false] rfl rfl (by kernel_rfl) (fun _ _ _ h => h) (Or.inl ⟨by rfl, ?_⟩) ?_ ?_
  rotate_left
  · intro w'
    go_simp
    with_reducible rfl
  rotate_left
  · simp only [Act.put, List.setIfInBounds_toArray, List.set_cons_zero, List.set_cons_succ, i64_w, i32_w]
    rfl
  refine take_ (i := 2) (N := some 28) (v := ?_) (a' := ?_) #[true, true, true, false, false, false, false, false, false, false, false, false, false, false, false, false, false] rfl rfl (by kernel_rfl) (fun _ _ _ h => h) (Or.inl ⟨by rfl, ?_⟩) hHeld ?_ ?_
  rotate_left
  · rintro w' ⟨s0, s1, s2, s3⟩
    go_simp
    with_reducible rfl
  rotate_left
  · simp only [Act.put, List.setIfInBounds_toArray, List.set_cons_zero, List.set_cons_succ, i64_w, i32_w]
    rfl
  refine pure_ (i := 3) (N := some 29) (v := ?_) (a' := ?_) #[true, true, true, true, false, false, false, false, false, false, false, false, false, false, false, false, false] rfl rfl (by kernel_rfl) (fun _ _ _ h => h) (Or.inl ⟨by rfl, ?_⟩) ?_ ?_
  rotate_left
  · intro w'
    go_simp
    with_reducible rfl
  rotate_left
  · simp only [Act.put, List.setIfInBounds_toArray, List.set_cons_zero, List.set_cons_succ, i64_w, i32_w]
    rfl
  refine take_ (i := 4) (N := some 30) (v := ?_) (a' := ?_) #[true, true, true, true, true, false, false, false, false, false, false, false, false, false, false, false, false] rfl rfl (by kernel_rfl) (fun _ _ _ h => h) (Or.inl ⟨by rfl, ?_⟩) hHeld ?_ ?_
  rotate_left
  · rintro w' ⟨s0, s1, s2, s3⟩
    go_simp
    with_reducible rfl
  rotate_left
  · simp only [Act.put, List.setIfInBounds_toArray, List.set_cons_zero, List.set_cons_succ, i64_w, i32_w]
    rfl
  refine pure_ (i := 5) (N := some 31) (v := .int .i64 x) (a' := ?_) #[true, true, true, true, true, true, false, false, false, false, false, false, false, false, false, false, false] rfl rfl (by kernel_rfl) (fun _ _ _ h => h) (Or.inl ⟨by rfl, ?_⟩) ?_ ?_
  · intro w'
    go_simp
    first | done | (simp only [i64_w, HWX.out]; done) | rw [i64_w, HWX.out]
  rotate_left
  · simp only [Act.put, List.setIfInBounds_toArray, List.set_cons_zero, List.set_cons_succ, i64_w, i32_w]
    rfl
  refine pure_ (i := 6) (N := some 32) (v := ?_) (a' := ?_) #[true, true, true, true, true, true, true, false, false, false, false, false, false, false, false, false, false] rfl rfl (by kernel_rfl) (fun _ _ _ h => h) (Or.inl ⟨by rfl, ?_⟩) ?_ ?_
  rotate_left
  · intro w'
    go_simp
    with_reducible rfl
  rotate_left
  · simp only [Act.put, List.setIfInBounds_toArray, List.set_cons_zero, List.set_cons_succ, i64_w, i32_w]
    rfl
  refine pure_ (i := 7) (N := some 33) (v := ?_) (a' := ?_) #[true, true, true, true, true, true, true, true, false, false, false, false, false, false, false, false, false] rfl rfl (by kernel_rfl) (fun _ _ _ h => h) (Or.inl ⟨by rfl, ?_⟩) ?_ ?_
  rotate_left
  · intro w'
    go_simp
    with_reducible rfl
  rotate_left
  · simp only [Act.put, List.setIfInBounds_toArray, List.set_cons_zero, List.set_cons_succ, i64_w, i32_w]
    rfl
  refine take_ (i := 8) (N := some 34) (v := ?_) (a' := ?_) #[true, true, true, true, true, true, true, true, true, false, false, false, false, false, false, false, false] rfl rfl (by kernel_rfl) (fun _ _ _ h => h) (Or.inl ⟨by rfl, ?_⟩) hHeld ?_ ?_
  rotate_left
  · rintro w' ⟨s0, s1, s2, s3⟩
    go_simp
    with_reducible rfl
  rotate_left
  · simp only [Act.put, List.setIfInBounds_toArray, List.set_cons_zero, List.set_cons_succ, i64_w, i32_w]
    rfl
  refine pure_ (i := 9) (N := some 35) (v := ?_) (a' := ?_) #[true, true, true, true, true, true, true, true, true, true, false, false, false, false, false, false, false] rfl rfl (by kernel_rfl) (fun _ _ _ h => h) (Or.inl ⟨by rfl, ?_⟩) ?_ ?_
  rotate_left
  · intro w'
    go_simp
    with_reducible rfl
  rotate_left
  · simp only [Act.put, List.setIfInBounds_toArray, List.set_cons_zero, List.set_cons_succ, i64_w, i32_w]
    rfl
  refine take_ (i := 10) (N := some 36) (v := ?_) (a' := ?_) #[true, true, true, true, true, true, true, true, true, true, true, false, false, false, false, false, false] rfl rfl (by kernel_rfl) (fun _ _ _ h => h) (Or.inl ⟨by rfl, ?_⟩) hHeld ?_ ?_
  rotate_left
  · rintro w' ⟨s0, s1, s2, s3⟩
    go_simp
    with_reducible rfl
  rotate_left
  · simp only [Act.put, List.setIfInBounds_toArray, List.set_cons_zero, List.set_cons_succ, i64_w, i32_w]
    rfl
  refine pure_ (i := 11) (N := some 37) (v := .int .i64 y) (a' := ?_) #[true, true, true, true, true, true, true, true, true, true, true, true, false, false, false, false, false] rfl rfl (by kernel_rfl) (fun _ _ _ h => h) (Or.inl ⟨by rfl, ?_⟩) ?_ ?_
  · intro w'
    go_simp
    first | done | (simp only [i64_w, HWY.out]; done) | rw [i64_w, HWY.out]
  rotate_left
  · simp only [Act.put, List.setIfInBounds_toArray, List.set_cons_zero, List.set_cons_succ, i64_w, i32_w]
    rfl
  refine pure_ (i := 12) (N := some 38) (v := ?_) (a' := ?_) #[true, true, true, true, true, true, true, true, true, true, true, true, true, false, false, false, false] rfl rfl (by kernel_rfl) (fun _ _ _ h => h) (Or.inl ⟨by rfl, ?_⟩) ?_ ?_
  rotate_left
  · intro w'
    go_simp
    with_reducible rfl
  rotate_left
  · simp only [Act.put, List.setIfInBounds_toArray, List.set_cons_zero, List.set_cons_succ, i64_w, i32_w]
    rfl
  refine pure_ (i := 13) (N := some 39) (v := .slice A_PS ps.length c_PS) (a' := ?_) #[true, true, true, true, true, true, true, true, true, true, true, true, true, true, false, false, false] rfl rfl (by kernel_rfl) (fun _ _ _ h => h) (Or.inl ⟨by rfl, ?_⟩) ?_ ?_
  · intro w'
    go_simp
    exact ⟨EAP.out, EDL.out, ECP.out⟩
  rotate_left
  · simp only [Act.put, List.setIfInBounds_toArray, List.set_cons_zero, List.set_cons_succ, i64_w, i32_w]
    rfl
  refine pure_ (i := 14) (N := some 40) (v := ?_) (a' := ?_) #[true, true, true, true, true, true, true, true, true, true, true, true, true, true, true, false, false] rfl rfl (by kernel_rfl) (fun _ _ _ h => h) (Or.inl ⟨by rfl, ?_⟩) ?_ ?_
  rotate_left
  · intro w'
    go_simp
    with_reducible rfl
  rotate_left
  · simp only [Act.put, List.setIfInBounds_toArray, List.set_cons_zero, List.set_cons_succ, i64_w, i32_w]
    rfl
  refine one_ (i := 15) (N := some 4) #[true, true, true, true, true, true, true, true, true, true, true, true, true, true, true, true, false] rfl rfl (by kernel_rfl) (by decide) (fun K hK => ?_)
  refine box_stepK (cs := #[.int .i64 0, .int .i64 0, .slice none 0 0]) (t := 89) (by rfl) rfl ?hr ?_
  case hr => first | (go_simp; done) | (go_simp; rfl)
  intro g4_ hg w4_ hbox hb
  have hS_ : (fun w' : World => w'.cell? (⟨gw_, 0, none⟩) = some (.slice (some b0_) 1 d0_) ∧ w'.cell? (⟨gw_, 1, none⟩) = some (.slice (some b1_) 1 d1_) ∧ w'.cell? (b0_) = some (.int .u8 x) ∧ w'.cell? (b1_) = some (.int .u8 y)) w4_ := by
    obtain ⟨s0, s1, s2, s3⟩ := hHeld
    exact ⟨(hb.cell (World.block_lt_of_cell? _ _ s0)).trans s0, (hb.cell (World.block_lt_of_cell? _ _ s1)).trans s1, (hb.cell (World.block_lt_of_cell? _ _ s2)).trans s2, (hb.cell (World.block_lt_of_cell? _ _ s3)).trans s3⟩
  replace BK2 := Aside0.mk (blk_below BK2.out hb)
  replace PS := Aside0.mk (AR.below PS.out hb)
  replace HB := Aside0.mk (below_step HB.out hb)
  replace ZZ := Aside0.mk (And.intro ZZ.out (show w3_.heap.size ≤ w4_.heap.size from hb.size))
  have BK4 := Aside0.mk hbox
  replace ZZ := Aside0.mk (And.intro ZZ.out (And.intro (show g4_ = w3_.heap.size from hg) (show g4_ < w4_.heap.size from blk_lt hbox)))
  clear hb hbox hg
  refine hK.out _ _ hS_ (fun hHeld2 => ?_)
  clear hK K hHeld hS_
  have hHeld := hHeld2
  clear hHeld2
  refine norm_ (a' := ?_) ?_ ?_
  rotate_left
  · show Act.put _ (some 4) _ = _
    simp only [Act.put, List.setIfInBounds_toArray, List.set_cons_zero, List.set_cons_succ, i64_w, i32_w]
    rfl
  refine last_ (i := 16) (N := none) #[true, true, true, true, true, true, true, true, true, true, true, true, true, true, true, true, true] rfl rfl (by kernel_rfl) (by decide) (fun K hK => ?_)
  refine row_stepK (by rfl) 89 (.tmp 4) (.tmp 40) rfl g4_ #[.int .i64 x, .int .i64 y, .slice A_PS ps.length c_PS] rfl ?hy 89 _ BK4.out ?hi ?ho ?h1 rfl HB.out (show w.heap.size ≤ g4_ from (by have h_ := ZZ.out; omega)) ?_
  case hy => rfl
  case hi => kernel_rfl
  case ho => rfl
  case h1 => first | rfl | (simp [Value.oneCell']; done) | (go_simp; done)
  clear hHeld
  intro w5_ bo hk hb2
  clear BK4
  replace BK2 := Aside0.mk (blk_keptIn BK2.out hk (by have h_ := ZZ.out; omega))
  replace PS := Aside0.mk (AR.kept PS.out hk (by have h_ := ZZ.out; omega))
  replace HB := Aside0.mk hb2
  replace ZZ := Aside0.mk (And.intro ZZ.out (show w4_.heap.size ≤ w5_.heap.size from hk.1))
  have BK4 := Aside0.mk bo
  clear bo hk hb2
  refine hK.out _ _ ?_
  clear hK K
  refine done_ (by kernel_rfl) ?_
  have hz_BK2_0 : w5_.cell? ⟨g2_, 0, none⟩ = some (.int .i64 0) := (blk_cell BK2.out 0).trans rfl
  have hz_BK2_1 : w5_.cell? ⟨g2_, 1, none⟩ = some (.int .i64 0) := (blk_cell BK2.out 1).trans rfl
  have hz_BK2_2 : w5_.cell? ⟨g2_, 2, none⟩ = some (.int .i64 0) := (blk_cell BK2.out 2).trans rfl
  have hz_BK2_3 : w5_.cell? ⟨g2_, 3, none⟩ = some (.slice none 0 0) := (blk_cell BK2.out 3).trans rfl
  have hz_BK4_0 : w5_.cell? ⟨g4_, 0, none⟩ = some (.int .i64 x) := (blk_cell BK4.out 0).trans rfl
  have hz_BK4_1 : w5_.cell? ⟨g4_, 1, none⟩ = some (.int .i64 y) := (blk_cell BK4.out 1).trans rfl
  have hz_BK4_2 : w5_.cell? ⟨g4_, 2, none⟩ = some (.slice A_PS ps.length c_PS) := (blk_cell BK4.out 2).trans rfl
  go_wp2_with (first | (go_at_call 122; refine hold_here ?_))
  refine hold_go ?_
  refine (impl_isProof.calls _ x y A_PS c_PS ps b _ ?s1 ?s2 H_p.out).mono ?_
  case s1 => exact Kd.F_now (AR.foot PS.out)
  case s2 => exact HC_PS.out
  rintro e w6_ ⟨rfl, hb⟩
  replace BK2 := Aside0.mk (blk_below BK2.out hb)
  replace PS := Aside0.mk (AR.below PS.out hb)
  replace BK4 := Aside0.mk (blk_below BK4.out hb)
  replace HB := Aside0.mk (below_step HB.out hb)
  clear hz_BK2_0 hz_BK2_1 hz_BK2_2 hz_BK2_3 hz_BK4_0 hz_BK4_1 hz_BK4_2
  replace ZZ := Aside0.mk (And.intro ZZ.out (show w5_.heap.size ≤ w6_.heap.size from hb.size))
  clear hb
  have hz_BK2_0 : w6_.cell? ⟨g2_, 0, none⟩ = some (.int .i64 0) := (blk_cell BK2.out 0).trans rfl
  have hz_BK2_1 : w6_.cell? ⟨g2_, 1, none⟩ = some (.int .i64 0) := (blk_cell BK2.out 1).trans rfl
  have hz_BK2_2 : w6_.cell? ⟨g2_, 2, none⟩ = some (.int .i64 0) := (blk_cell BK2.out 2).trans rfl
  have hz_BK2_3 : w6_.cell? ⟨g2_, 3, none⟩ = some (.slice none 0 0) := (blk_cell BK2.out 3).trans rfl
  have hz_BK4_0 : w6_.cell? ⟨g4_, 0, none⟩ = some (.int .i64 x) := (blk_cell BK4.out 0).trans rfl
  have hz_BK4_1 : w6_.cell? ⟨g4_, 1, none⟩ = some (.int .i64 y) := (blk_cell BK4.out 1).trans rfl
  have hz_BK4_2 : w6_.cell? ⟨g4_, 2, none⟩ = some (.slice A_PS ps.length c_PS) := (blk_cell BK4.out 2).trans rfl
  cases b
  · skip
    go_wp2_with (first | ((with_reducible refine gate_store (t := 95) (p := 2) (v := .tmp 44) rfl ?_); refine hold_here ?_))
    refine hold_go ?_
    refine row_store rfl 95 (.tmp 2) (.tmp 44) rfl g2_ #[.int .i64 5, .int .i64 0, .int .i64 0, .slice none 0 0] rfl ?hy 95 _ BK2.out ?hi ?ho ?h1 rfl HB.out (show w.heap.size ≤ g2_ from (by have h_ := ZZ.out; omega)) ?_
    case hy => rfl
    case hi => kernel_rfl
    case ho => rfl
    case h1 => first | rfl | (simp [Value.oneCell']; done) | (go_simp; done)
    intro w7_ bo hk hb2
    clear BK2
    replace PS := Aside0.mk (AR.kept PS.out hk (by have h_ := ZZ.out; omega))
    replace BK4 := Aside0.mk (blk_keptIn BK4.out hk (by have h_ := ZZ.out; omega))
    replace HB := Aside0.mk hb2
    clear hz_BK2_0 hz_BK2_1 hz_BK2_2 hz_BK2_3 hz_BK4_0 hz_BK4_1 hz_BK4_2
    replace ZZ := Aside0.mk (And.intro ZZ.out (show w6_.heap.size ≤ w7_.heap.size from hk.1))
    have BK2 := Aside0.mk bo
    clear bo hk hb2
    have hz_BK4_0 : w7_.cell? ⟨g4_, 0, none⟩ = some (.int .i64 x) := (blk_cell BK4.out 0).trans rfl
    have hz_BK4_1 : w7_.cell? ⟨g4_, 1, none⟩ = some (.int .i64 y) := (blk_cell BK4.out 1).trans rfl
    have hz_BK4_2 : w7_.cell? ⟨g4_, 2, none⟩ = some (.slice A_PS ps.length c_PS) := (blk_cell BK4.out 2).trans rfl
    have hz_BK2_0 : w7_.cell? ⟨g2_, 0, none⟩ = some (.int .i64 5) := (blk_cell BK2.out 0).trans rfl
    have hz_BK2_1 : w7_.cell? ⟨g2_, 1, none⟩ = some (.int .i64 0) := (blk_cell BK2.out 1).trans rfl
    have hz_BK2_2 : w7_.cell? ⟨g2_, 2, none⟩ = some (.int .i64 0) := (blk_cell BK2.out 2).trans rfl
    have hz_BK2_3 : w7_.cell? ⟨g2_, 3, none⟩ = some (.slice none 0 0) := (blk_cell BK2.out 3).trans rfl
    go_wp2
    refine bodyPost_ret (results_cell_row rfl _ _ g2_ 95 #[.int .i64 5, .int .i64 0, .int .i64 0, .slice none 0 0] (0, 0) _ rfl BK2.out Try.underlying95 rfl (by kernel_rfl)) rfl ?_
    exact ⟨none, 0, rfl, Nat.le_refl _, AR.nil _ _ _ _ _, HB.out⟩
  · skip
    go_wp2_with (first | ((with_reducible refine gate_store (t := 95) (p := 2) (v := .tmp 46) rfl ?_); refine hold_here ?_))
    refine hold_go ?_
    refine row_store rfl 95 (.tmp 2) (.tmp 46) rfl g2_ #[.int .i64 0, .int .i64 x, .int .i64 y, .slice A_PS ps.length c_PS] rfl ?hy 95 _ BK2.out ?hi ?ho ?h1 rfl HB.out (show w.heap.size ≤ g2_ from (by have h_ := ZZ.out; omega)) ?_
    case hy => rfl
    case hi => kernel_rfl
    case ho => rfl
    case h1 => first | rfl | (simp [Value.oneCell']; done) | (go_simp; done)
    intro w7_ bo hk hb2
    clear BK2
    replace PS := Aside0.mk (AR.kept PS.out hk (by have h_ := ZZ.out; omega))
    replace BK4 := Aside0.mk (blk_keptIn BK4.out hk (by have h_ := ZZ.out; omega))
    replace HB := Aside0.mk hb2
    clear hz_BK2_0 hz_BK2_1 hz_BK2_2 hz_BK2_3 hz_BK4_0 hz_BK4_1 hz_BK4_2
    replace ZZ := Aside0.mk (And.intro ZZ.out (show w6_.heap.size ≤ w7_.heap.size from hk.1))
    have BK2 := Aside0.mk bo
    clear bo hk hb2
    have hz_BK4_0 : w7_.cell? ⟨g4_, 0, none⟩ = some (.int .i64 x) := (blk_cell BK4.out 0).trans rfl
    have hz_BK4_1 : w7_.cell? ⟨g4_, 1, none⟩ = some (.int .i64 y) := (blk_cell BK4.out 1).trans rfl
    have hz_BK4_2 : w7_.cell? ⟨g4_, 2, none⟩ = some (.slice A_PS ps.length c_PS) := (blk_cell BK4.out 2).trans rfl
    have hz_BK2_0 : w7_.cell? ⟨g2_, 0, none⟩ = some (.int .i64 0) := (blk_cell BK2.out 0).trans rfl
    have hz_BK2_1 : w7_.cell? ⟨g2_, 1, none⟩ = some (.int .i64 x) := (blk_cell BK2.out 1).trans rfl
    have hz_BK2_2 : w7_.cell? ⟨g2_, 2, none⟩ = some (.int .i64 y) := (blk_cell BK2.out 2).trans rfl
    have hz_BK2_3 : w7_.cell? ⟨g2_, 3, none⟩ = some (.slice A_PS ps.length c_PS) := (blk_cell BK2.out 3).trans rfl
    go_wp2
    refine bodyPost_ret (results_cell_row rfl _ _ g2_ 95 #[.int .i64 0, .int .i64 x, .int .i64 y, .slice A_PS ps.length c_PS] (0, 0) _ rfl BK2.out Try.underlying95 rfl (by kernel_rfl)) rfl ?_
    exact ⟨A_PS, c_PS, rfl, HC_PS.out, AR.grow PS.out (by have h_ := ZZ.out; omega) (by have h_ := ZZ.out; omega), HB.out⟩

end Go.Proofs.Ytmmhghddldhogaa.S

/- The walk over spec.UnpackProof: what it answers, way by way. No condition beyond those in the statements. -/
set_option linter.unusedVariables false
set_option linter.unusedSimpArgs false
namespace Go.Proofs.Ytmmhghddldhogaa.S
open Go Go.RowKit Go.Proofs.YtmmhghddldhogaaW.PrintWords Go.Proofs.YtmmhghddldhogaaW.PrintLast Go.Proofs.YtmmhghddldhogaaW.PrintMore Go.Proofs.Ytmmhghddldhogaa.Base
attribute [local go_sem] max2_int min2_int max_two min_two max_three min_three max_four min_four

set_option maxHeartbeats 80000000 in
set_option maxRecDepth 100000 in
theorem spec_UnpackProof_N (ku : Nat) (A0 : Option Addr) (c0 : Nat) (l0 : List Int) (q0 q1 : Int) (W : List (List Int)) (w : World) (hr0 : Kd.C (Kd.int .u8) w A0 l0.length l0) (hc0 : l0.length ≤ c0) (h_u : spec_UnpackWords.f ku l0 = some (q0, q1, W)) (h_q : q0 ≠ 0) :
    Calls Try.prog 79 #[.slice A0 l0.length c0] w fun e w' => ∃ A c, e = .returned (.agg #[.int .i64 5, .int .i64 0, .int .i64 0, .slice A ([] : List (List Int)).length c]) ∧ ([] : List (List Int)).length ≤ c ∧ AR w.heap.size w' w.heap.size w'.heap.size A ([] : List (List Int)) ∧ Below w.heap.size w w' := by
  have hu1_ := Try.underlying95
  have hu2_ := Try.underlying89
  have hu3_ := Try.underlying50
  have HR0 := Aside0.mk hr0
  have HC0 := Aside0.mk hc0
  have H_u := Aside0.mk h_u
  have H_q := Aside0.mk h_q
  have HB := Aside0.mk (Below.refl w.heap.size w)
  have ZZ := Aside0.mk (Nat.le_refl w.heap.size)
  have cq0_ : (q0 == 0) = false := beq_eq_false_iff_ne.2 h_q
  have cq1_ : (q0 != 0) = true := bne_iff_ne.2 h_q
  clear hr0 hc0 h_u h_q
  go_enter Try.func79, Try.ntmps79
  go_wp2_with (first | ((with_reducible refine gate_dst (N := 2) rfl ?_); refine hold_here ?_))
  refine hold_go ?_
  refine box_event (N := 2) (cs := #[.int .i64 0, .int .i64 0, .int .i64 0, .slice none 0 0]) (t := 95) ?hgb rfl ?hrb ?_
  case hgb => rfl
  case hrb => first | (go_simp; done) | (go_simp; rfl)
  intro g2_ hg w1_ hbox hb
  replace HB := Aside0.mk (below_step HB.out hb)
  replace ZZ := Aside0.mk (And.intro ZZ.out (show w.heap.size ≤ w1_.heap.size from hb.size))
  have BK2 := Aside0.mk hbox
  replace ZZ := Aside0.mk (And.intro ZZ.out (And.intro (show g2_ = w.heap.size from hg) (show g2_ < w1_.heap.size from blk_lt hbox)))
  clear hb hbox hg
  have hz_BK2_0 : w1_.cell? ⟨g2_, 0, none⟩ = some (.int .i64 0) := (blk_cell BK2.out 0).trans rfl
  have hz_BK2_1 : w1_.cell? ⟨g2_, 1, none⟩ = some (.int .i64 0) := (blk_cell BK2.out 1).trans rfl
  have hz_BK2_2 : w1_.cell? ⟨g2_, 2, none⟩ = some (.int .i64 0) := (blk_cell BK2.out 2).trans rfl
  have hz_BK2_3 : w1_.cell? ⟨g2_, 3, none⟩ = some (.slice none 0 0) := (blk_cell BK2.out 3).trans rfl
  go_wp2_with (first | (go_at_call 36; refine hold_here ?_))
  refine hold_go ?_
  refine (spec_UnpackWords.calls _ A0 c0 l0 q0 q1 W _ ?s1 ?s2 H_u.out).mono ?_
  case s1 => exact Kd.C_below HR0.out HB.out
  case s2 => exact HC0.out
  rintro e w2_ ⟨v, rfl, ho, hb⟩
  replace BK2 := Aside0.mk (blk_below BK2.out hb)
  replace HB := Aside0.mk (below_step HB.out hb)
  clear hz_BK2_0 hz_BK2_1 hz_BK2_2 hz_BK2_3
  replace ZZ := Aside0.mk (And.intro ZZ.out (show w1_.heap.size ≤ w2_.heap.size from hb.size))
  obtain ⟨A_WS, c_WS, ev_, hc_WS, hA_WS⟩ := AR_of_S (base := w.heap.size) ho (show w.heap.size ≤ w1_.heap.size from (by have h_ := ZZ.out; omega))
  subst ev_
  have HC_WS := Aside0.mk hc_WS
  have WS := Aside0.mk (show AR w.heap.size w2_ w1_.heap.size w2_.heap.size A_WS W from hA_WS)
  clear hc_WS hA_WS ho
  clear hb
  have hz_BK2_0 : w2_.cell? ⟨g2_, 0, none⟩ = some (.int .i64 0) := (blk_cell BK2.out 0).trans rfl
  have hz_BK2_1 : w2_.cell? ⟨g2_, 1, none⟩ = some (.int .i64 0) := (blk_cell BK2.out 1).trans rfl
  have hz_BK2_2 : w2_.cell? ⟨g2_, 2, none⟩ = some (.int .i64 0) := (blk_cell BK2.out 2).trans rfl
  have hz_BK2_3 : w2_.cell? ⟨g2_, 3, none⟩ = some (.slice none 0 0) := (blk_cell BK2.out 3).trans rfl
  go_wp2_with (first | ((with_reducible refine gate_dst (N := 3) rfl ?_); refine hold_here ?_))
  refine hold_go ?_
  refine box_event (N := 3) (cs := #[.int .i64 0, .int .i64 0, .slice none 0 0]) (t := 50) ?hgb rfl ?hrb ?_
  case hgb => rfl
  case hrb => first | (go_simp; done) | (go_simp; rfl)
  intro g3_ hg w3_ hbox hb
  replace BK2 := Aside0.mk (blk_below BK2.out hb)
  replace WS := Aside0.mk (AR.below WS.out hb)
  replace HB := Aside0.mk (below_step HB.out hb)
  clear hz_BK2_0 hz_BK2_1 hz_BK2_2 hz_BK2_3
  replace ZZ := Aside0.mk (And.intro ZZ.out (show w2_.heap.size ≤ w3_.heap.size from hb.size))
  have BK3 := Aside0.mk hbox
  replace ZZ := Aside0.mk (And.intro ZZ.out (And.intro (show g3_ = w2_.heap.size from hg) (show g3_ < w3_.heap.size from blk_lt hbox)))
  clear hb hbox hg
  have hz_BK2_0 : w3_.cell? ⟨g2_, 0, none⟩ = some (.int .i64 0) := (blk_cell BK2.out 0).trans rfl
  have hz_BK2_1 : w3_.cell? ⟨g2_, 1, none⟩ = some (.int .i64 0) := (blk_cell BK2.out 1).trans rfl
  have hz_BK2_2 : w3_.cell? ⟨g2_, 2, none⟩ = some (.int .i64 0) := (blk_cell BK2.out 2).trans rfl
  have hz_BK2_3 : w3_.cell? ⟨g2_, 3, none⟩ = some (.slice none 0 0) := (blk_cell BK2.out 3).trans rfl
  have hz_BK3_0 : w3_.cell? ⟨g3_, 0, none⟩ = some (.int .i64 0) := (blk_cell BK3.out 0).trans rfl
  have hz_BK3_1 : w3_.cell? ⟨g3_, 1, none⟩ = some (.int .i64 0) := (blk_cell BK3.out 1).trans rfl
  have hz_BK3_2 : w3_.cell? ⟨g3_, 2, none⟩ = some (.slice none 0 0) := (blk_cell BK3.out 2).trans rfl
  go_wp2_with (first | ((with_reducible refine gate_store (t := 50) (p := 3) (v := .tmp 7) rfl ?_); refine hold_here ?_))
  refine hold_go ?_
  refine row_store rfl 50 (.tmp 3) (.tmp 7) rfl g3_ #[.int .i64 q0, .int .i64 q1, .slice A_WS W.length c_WS] rfl ?hy 50 _ BK3.out ?hi ?ho ?h1 rfl HB.out (show w.heap.size ≤ g3_ from (by have h_ := ZZ.out; omega)) ?_
  case hy => rfl
  case hi => kernel_rfl
  case ho => rfl
  case h1 => first | rfl | (simp [Value.oneCell']; done) | (go_simp; done)
  intro w4_ bo hk hb2
  clear BK3
  replace BK2 := Aside0.mk (blk_keptIn BK2.out hk (by have h_ := ZZ.out; omega))
  replace WS := Aside0.mk (AR.kept WS.out hk (by have h_ := ZZ.out; omega))
  replace HB := Aside0.mk hb2
  clear hz_BK2_0 hz_BK2_1 hz_BK2_2 hz_BK2_3 hz_BK3_0 hz_BK3_1 hz_BK3_2
  replace ZZ := Aside0.mk (And.intro ZZ.out (show w3_.heap.size ≤ w4_.heap.size from hk.1))
  have BK3 := Aside0.mk bo
  clear bo hk hb2
  have hz_BK2_0 : w4_.cell? ⟨g2_, 0, none⟩ = some (.int .i64 0) := (blk_cell BK2.out 0).trans rfl
  have hz_BK2_1 : w4_.cell? ⟨g2_, 1, none⟩ = some (.int .i64 0) := (blk_cell BK2.out 1).trans rfl
  have hz_BK2_2 : w4_.cell? ⟨g2_, 2, none⟩ = some (.int .i64 0) := (blk_cell BK2.out 2).trans rfl
  have hz_BK2_3 : w4_.cell? ⟨g2_, 3, none⟩ = some (.slice none 0 0) := (blk_cell BK2.out 3).trans rfl
  have hz_BK3_0 : w4_.cell? ⟨g3_, 0, none⟩ = some (.int .i64 q0) := (blk_cell BK3.out 0).trans rfl
  have hz_BK3_1 : w4_.cell? ⟨g3_, 1, none⟩ = some (.int .i64 q1) := (blk_cell BK3.out 1).trans rfl
  have hz_BK3_2 : w4_.cell? ⟨g3_, 2, none⟩ = some (.slice A_WS W.length c_WS) := (blk_cell BK3.out 2).trans rfl
  go_wp2_with (first | ((with_reducible refine gate_store (t := 95) (p := 2) (v := .tmp 32) rfl ?_); refine hold_here ?_))
  refine hold_go ?_
  refine row_store rfl 95 (.tmp 2) (.tmp 32) rfl g2_ #[.int .i64 5, .int .i64 0, .int .i64 0, .slice none 0 0] rfl ?hy 95 _ BK2.out ?hi ?ho ?h1 rfl HB.out (show w.heap.size ≤ g2_ from (by have h_ := ZZ.out; omega)) ?_
  case hy => rfl
  case hi => kernel_rfl
  case ho => rfl
  case h1 => first | rfl | (simp [Value.oneCell']; done) | (go_simp; done)
  intro w5_ bo hk hb2
  clear BK2
  replace WS := Aside0.mk (AR.kept WS.out hk (by have h_ := ZZ.out; omega))
  replace BK3 := Aside0.mk (blk_keptIn BK3.out hk (by have h_ := ZZ.out; omega))
  replace HB := Aside0.mk hb2
  clear hz_BK2_0 hz_BK2_1 hz_BK2_2 hz_BK2_3 hz_BK3_0 hz_BK3_1 hz_BK3_2
  replace ZZ := Aside0.mk (And.intro ZZ.out (show w4_.heap.size ≤ w5_.heap.size from hk.1))
  have BK2 := Aside0.mk bo
  clear bo hk hb2
  have hz_BK3_0 : w5_.cell? ⟨g3_, 0, none⟩ = some (.int .i64 q0) := (blk_cell BK3.out 0).trans rfl
  have hz_BK3_1 : w5_.cell? ⟨g3_, 1, none⟩ = some (.int .i64 q1) := (blk_cell BK3.out 1).trans rfl
  have hz_BK3_2 : w5_.cell? ⟨g3_, 2, none⟩ = some (.slice A_WS W.length c_WS) := (blk_cell BK3.out 2).trans rfl
  have hz_BK2_0 : w5_.cell? ⟨g2_, 0, none⟩ = some (.int .i64 5) := (blk_cell BK2.out 0).trans rfl
  have hz_BK2_1 : w5_.cell? ⟨g2_, 1, none⟩ = some (.int .i64 0) := (blk_cell BK2.out 1).trans rfl
  have hz_BK2_2 : w5_.cell? ⟨g2_, 2, none⟩ = some (.int .i64 0) := (blk_cell BK2.out 2).trans rfl
  have hz_BK2_3 : w5_.cell? ⟨g2_, 3, none⟩ = some (.slice none 0 0) := (blk_cell BK2.out 3).trans rfl
  go_wp2
  refine bodyPost_ret (results_cell_row rfl _ _ g2_ 95 #[.int .i64 5, .int .i64 0, .int .i64 0, .slice none 0 0] (0, 0) _ rfl BK2.out Try.underlying95 rfl (by kernel_rfl)) rfl ?_
  exact ⟨none, 0, rfl, Nat.le_refl _, AR.nil _ _ _ _ _, HB.out⟩
set_option maxHeartbeats 80000000 in
set_option maxRecDepth 100000 in
theorem spec_UnpackProof_A (ku : Nat) (A0 : Option Addr) (c0 : Nat) (l0 : List Int) (q0 q1 : Int) (W : List (List Int)) (w : World) (hr0 : Kd.C (Kd.int .u8) w A0 l0.length l0) (hc0 : l0.length ≤ c0) (h_u : spec_UnpackWords.f ku l0 = some (q0, q1, W)) (h_q : q0 = 0) (h_n : W.length < 2) :
    Calls Try.prog 79 #[.slice A0 l0.length c0] w fun e w' => ∃ A c, e = .returned (.agg #[.int .i64 5, .int .i64 0, .int .i64 0, .slice A ([] : List (List Int)).length c]) ∧ ([] : List (List Int)).length ≤ c ∧ AR w.heap.size w' w.heap.size w'.heap.size A ([] : List (List Int)) ∧ Below w.heap.size w w' := by
  have hu1_ := Try.underlying95
  have hu2_ := Try.underlying89
  have hu3_ := Try.underlying50
  have HR0 := Aside0.mk hr0
  have HC0 := Aside0.mk hc0
  have H_u := Aside0.mk h_u
  have H_q := Aside0.mk h_q
  have H_n := Aside0.mk h_n
  have HB := Aside0.mk (Below.refl w.heap.size w)
  have ZZ := Aside0.mk (Nat.le_refl w.heap.size)
  have cq0_ : (q0 == 0) = true := beq_iff_eq.2 h_q
  have cq1_ : (q0 != 0) = false := bne_eq_false_iff_eq.2 h_q
  have cn0_ : decide ((W.length : Int) < 2) = true := decide_eq_true (by omega)
  have cn1_ : decide (W.length < 2) = true := decide_eq_true h_n
  clear hr0 hc0 h_u h_q h_n
  go_enter Try.func79, Try.ntmps79
  go_wp2_with (first | ((with_reducible refine gate_dst (N := 2) rfl ?_); refine hold_here ?_))
  refine hold_go ?_
  refine box_event (N := 2) (cs := #[.int .i64 0, .int .i64 0, .int .i64 0, .slice none 0 0]) (t := 95) ?hgb rfl ?hrb ?_
  case hgb => rfl
  case hrb => first | (go_simp; done) | (go_simp; rfl)
  intro g2_ hg w1_ hbox hb
  replace HB := Aside0.mk (below_step HB.out hb)
  replace ZZ := Aside0.mk (And.intro ZZ.out (show w.heap.size ≤ w1_.heap.size from hb.size))
  have BK2 := Aside0.mk hbox
  replace ZZ := Aside0.mk (And.intro ZZ.out (And.intro (show g2_ = w.heap.size from hg) (show g2_ < w1_.heap.size from blk_lt hbox)))
  clear hb hbox hg
  have hz_BK2_0 : w1_.cell? ⟨g2_, 0, none⟩ = some (.int .i64 0) := (blk_cell BK2.out 0).trans rfl
  have hz_BK2_1 : w1_.cell? ⟨g2_, 1, none⟩ = some (.int .i64 0) := (blk_cell BK2.out 1).trans rfl
  have hz_BK2_2 : w1_.cell? ⟨g2_, 2, none⟩ = some (.int .i64 0) := (blk_cell BK2.out 2).trans rfl
  have hz_BK2_3 : w1_.cell? ⟨g2_, 3, none⟩ = some (.slice none 0 0) := (blk_cell BK2.out 3).trans rfl
  go_wp2_with (first | (go_at_call 36; refine hold_here ?_))
  refine hold_go ?_
  refine (spec_UnpackWords.calls _ A0 c0 l0 q0 q1 W _ ?s1 ?s2 H_u.out).mono ?_
  case s1 => exact Kd.C_below HR0.out HB.out
  case s2 => exact HC0.out
  rintro e w2_ ⟨v, rfl, ho, hb⟩
  replace BK2 := Aside0.mk (blk_below BK2.out hb)
  replace HB := Aside0.mk (below_step HB.out hb)
  clear hz_BK2_0 hz_BK2_1 hz_BK2_2 hz_BK2_3
  replace ZZ := Aside0.mk (And.intro ZZ.out (show w1_.heap.size ≤ w2_.heap.size from hb.size))
  obtain ⟨A_WS, c_WS, ev_, hc_WS, hA_WS⟩ := AR_of_S (base := w.heap.size) ho (show w.heap.size ≤ w1_.heap.size from (by have h_ := ZZ.out; omega))
  subst ev_
  have HC_WS := Aside0.mk hc_WS
  have WS := Aside0.mk (show AR w.heap.size w2_ w1_.heap.size w2_.heap.size A_WS W from hA_WS)
  clear hc_WS hA_WS ho
  clear hb
  have hz_BK2_0 : w2_.cell? ⟨g2_, 0, none⟩ = some (.int .i64 0) := (blk_cell BK2.out 0).trans rfl
  have hz_BK2_1 : w2_.cell? ⟨g2_, 1, none⟩ = some (.int .i64 0) := (blk_cell BK2.out 1).trans rfl
  have hz_BK2_2 : w2_.cell? ⟨g2_, 2, none⟩ = some (.int .i64 0) := (blk_cell BK2.out 2).trans rfl
  have hz_BK2_3 : w2_.cell? ⟨g2_, 3, none⟩ = some (.slice none 0 0) := (blk_cell BK2.out 3).trans rfl
  go_wp2_with (first | ((with_reducible refine gate_dst (N := 3) rfl ?_); refine hold_here ?_))
  refine hold_go ?_
  refine box_event (N := 3) (cs := #[.int .i64 0, .int .i64 0, .slice none 0 0]) (t := 50) ?hgb rfl ?hrb ?_
  case hgb => rfl
  case hrb => first | (go_simp; done) | (go_simp; rfl)
  intro g3_ hg w3_ hbox hb
  replace BK2 := Aside0.mk (blk_below BK2.out hb)
  replace WS := Aside0.mk (AR.below WS.out hb)
  replace HB := Aside0.mk (below_step HB.out hb)
  clear hz_BK2_0 hz_BK2_1 hz_BK2_2 hz_BK2_3
  replace ZZ := Aside0.mk (And.intro ZZ.out (show w2_.heap.size ≤ w3_.heap.size from hb.size))
  have BK3 := Aside0.mk hbox
  replace ZZ := Aside0.mk (And.intro ZZ.out (And.intro (show g3_ = w2_.heap.size from hg) (show g3_ < w3_.heap.size from blk_lt hbox)))
  clear hb hbox hg
  have hz_BK2_0 : w3_.cell? ⟨g2_, 0, none⟩ = some (.int .i64 0) := (blk_cell BK2.out 0).trans rfl
  have hz_BK2_1 : w3_.cell? ⟨g2_, 1, none⟩ = some (.int .i64 0) := (blk_cell BK2.out 1).trans rfl
  have hz_BK2_2 : w3_.cell? ⟨g2_, 2, none⟩ = some (.int .i64 0) := (blk_cell BK2.out 2).trans rfl
  have hz_BK2_3 : w3_.cell? ⟨g2_, 3, none⟩ = some (.slice none 0 0) := (blk_cell BK2.out 3).trans rfl
  have hz_BK3_0 : w3_.cell? ⟨g3_, 0, none⟩ = some (.int .i64 0) := (blk_cell BK3.out 0).trans rfl
  have hz_BK3_1 : w3_.cell? ⟨g3_, 1, none⟩ = some (.int .i64 0) := (blk_cell BK3.out 1).trans rfl
  have hz_BK3_2 : w3_.cell? ⟨g3_, 2, none⟩ = some (.slice none 0 0) := (blk_cell BK3.out 2).trans rfl
  go_wp2_with (first | ((with_reducible refine gate_store (t := 50) (p := 3) (v := .tmp 7) rfl ?_); refine hold_here ?_))
  refine hold_go ?_
  refine row_store rfl 50 (.tmp 3) (.tmp 7) rfl g3_ #[.int .i64 q0, .int .i64 q1, .slice A_WS W.length c_WS] rfl ?hy 50 _ BK3.out ?hi ?ho ?h1 rfl HB.out (show w.heap.size ≤ g3_ from (by have h_ := ZZ.out; omega)) ?_
  case hy => rfl
  case hi => kernel_rfl
  case ho => rfl
  case h1 => first | rfl | (simp [Value.oneCell']; done) | (go_simp; done)
  intro w4_ bo hk hb2
  clear BK3
  replace BK2 := Aside0.mk (blk_keptIn BK2.out hk (by have h_ := ZZ.out; omega))
  replace WS := Aside0.mk (AR.kept WS.out hk (by have h_ := ZZ.out; omega))
  replace HB := Aside0.mk hb2
  clear hz_BK2_0 hz_BK2_1 hz_BK2_2 hz_BK2_3 hz_BK3_0 hz_BK3_1 hz_BK3_2
  replace ZZ := Aside0.mk (And.intro ZZ.out (show w3_.heap.size ≤ w4_.heap.size from hk.1))
  have BK3 := Aside0.mk bo
  clear bo hk hb2
  have hz_BK2_0 : w4_.cell? ⟨g2_, 0, none⟩ = some (.int .i64 0) := (blk_cell BK2.out 0).trans rfl
  have hz_BK2_1 : w4_.cell? ⟨g2_, 1, none⟩ = some (.int .i64 0) := (blk_cell BK2.out 1).trans rfl
  have hz_BK2_2 : w4_.cell? ⟨g2_, 2, none⟩ = some (.int .i64 0) := (blk_cell BK2.out 2).trans rfl
  have hz_BK2_3 : w4_.cell? ⟨g2_, 3, none⟩ = some (.slice none 0 0) := (blk_cell BK2.out 3).trans rfl
  have hz_BK3_0 : w4_.cell? ⟨g3_, 0, none⟩ = some (.int .i64 q0) := (blk_cell BK3.out 0).trans rfl
  have hz_BK3_1 : w4_.cell? ⟨g3_, 1, none⟩ = some (.int .i64 q1) := (blk_cell BK3.out 1).trans rfl
  have hz_BK3_2 : w4_.cell? ⟨g3_, 2, none⟩ = some (.slice A_WS W.length c_WS) := (blk_cell BK3.out 2).trans rfl
  go_wp2_with (first | ((with_reducible refine gate_store (t := 95) (p := 2) (v := .tmp 32) rfl ?_); refine hold_here ?_))
  refine hold_go ?_
  refine row_store rfl 95 (.tmp 2) (.tmp 32) rfl g2_ #[.int .i64 5, .int .i64 0, .int .i64 0, .slice none 0 0] rfl ?hy 95 _ BK2.out ?hi ?ho ?h1 rfl HB.out (show w.heap.size ≤ g2_ from (by have h_ := ZZ.out; omega)) ?_
  case hy => rfl
  case hi => kernel_rfl
  case ho => rfl
  case h1 => first | rfl | (simp [Value.oneCell']; done) | (go_simp; done)
  intro w5_ bo hk hb2
  clear BK2
  replace WS := Aside0.mk (AR.kept WS.out hk (by have h_ := ZZ.out; omega))
  replace BK3 := Aside0.mk (blk_keptIn BK3.out hk (by have h_ := ZZ.out; omega))
  replace HB := Aside0.mk hb2
  clear hz_BK2_0 hz_BK2_1 hz_BK2_2 hz_BK2_3 hz_BK3_0 hz_BK3_1 hz_BK3_2
  replace ZZ := Aside0.mk (And.intro ZZ.out (show w4_.heap.size ≤ w5_.heap.size from hk.1))
  have BK2 := Aside0.mk bo
  clear bo hk hb2
  have hz_BK3_0 : w5_.cell? ⟨g3_, 0, none⟩ = some (.int .i64 q0) := (blk_cell BK3.out 0).trans rfl
  have hz_BK3_1 : w5_.cell? ⟨g3_, 1, none⟩ = some (.int .i64 q1) := (blk_cell BK3.out 1).trans rfl
  have hz_BK3_2 : w5_.cell? ⟨g3_, 2, none⟩ = some (.slice A_WS W.length c_WS) := (blk_cell BK3.out 2).trans rfl
  have hz_BK2_0 : w5_.cell? ⟨g2_, 0, none⟩ = some (.int .i64 5) := (blk_cell BK2.out 0).trans rfl
  have hz_BK2_1 : w5_.cell? ⟨g2_, 1, none⟩ = some (.int .i64 0) := (blk_cell BK2.out 1).trans rfl
  have hz_BK2_2 : w5_.cell? ⟨g2_, 2, none⟩ = some (.int .i64 0) := (blk_cell BK2.out 2).trans rfl
  have hz_BK2_3 : w5_.cell? ⟨g2_, 3, none⟩ = some (.slice none 0 0) := (blk_cell BK2.out 3).trans rfl
  go_wp2
  refine bodyPost_ret (results_cell_row rfl _ _ g2_ 95 #[.int .i64 5, .int .i64 0, .int .i64 0, .slice none 0 0] (0, 0) _ rfl BK2.out Try.underlying95 rfl (by kernel_rfl)) rfl ?_
  exact ⟨none, 0, rfl, Nat.le_refl _, AR.nil _ _ _ _ _, HB.out⟩
set_option maxHeartbeats 80000000 in
set_option maxRecDepth 100000 in
theorem spec_UnpackProof_B (ku : Nat) (A0 : Option Addr) (c0 : Nat) (l0 : List Int) (q0 q1 : Int) (W : List (List Int)) (w : World) (hr0 : Kd.C (Kd.int .u8) w A0 l0.length l0) (hc0 : l0.length ≤ c0) (h_u : spec_UnpackWords.f ku l0 = some (q0, q1, W)) (h_q : q0 = 0) (h_n : 2 ≤ W.length) (h_b : W[0]!.length ≠ 1) :
    Calls Try.prog 79 #[.slice A0 l0.length c0] w fun e w' => ∃ A c, e = .returned (.agg #[.int .i64 5, .int .i64 0, .int .i64 0, .slice A ([] : List (List Int)).length c]) ∧ ([] : List (List Int)).length ≤ c ∧ AR w.heap.size w' w.heap.size w'.heap.size A ([] : List (List Int)) ∧ Below w.heap.size w w' := by
  have hu1_ := Try.underlying95
  have hu2_ := Try.underlying89
  have hu3_ := Try.underlying50
  have HR0 := Aside0.mk hr0
  have HC0 := Aside0.mk hc0
  have H_u := Aside0.mk h_u
  have H_q := Aside0.mk h_q
  have H_n := Aside0.mk h_n
  have H_b := Aside0.mk h_b
  have HB := Aside0.mk (Below.refl w.heap.size w)
  have ZZ := Aside0.mk (Nat.le_refl w.heap.size)
  have cq0_ : (q0 == 0) = true := beq_iff_eq.2 h_q
  have cq1_ : (q0 != 0) = false := bne_eq_false_iff_eq.2 h_q
  have cn0_ : decide ((W.length : Int) < 2) = false := decide_eq_false (by omega)
  have cn1_ : decide (W.length < 2) = false := decide_eq_false (by omega)
  have cn2_ : (0 < W.length) = True := eq_true (by omega)
  have cn3_ : (1 < W.length) = True := eq_true (by omega)
  have cn4_ : ((0 : Int) < (W.length : Int)) = True := eq_true (by omega)
  have cn5_ : ((1 : Int) < (W.length : Int)) = True := eq_true (by omega)
  have cn6_ : ((2 : Int) ≤ (W.length : Int)) = True := eq_true (by omega)
  have cn7_ : (2 ≤ W.length) = True := eq_true (by omega)
  clear hr0 hc0 h_u h_q h_n h_b
  go_enter Try.func79, Try.ntmps79
  go_wp2_with (first | ((with_reducible refine gate_dst (N := 2) rfl ?_); refine hold_here ?_))
  refine hold_go ?_
  refine box_event (N := 2) (cs := #[.int .i64 0, .int .i64 0, .int .i64 0, .slice none 0 0]) (t := 95) ?hgb rfl ?hrb ?_
  case hgb => rfl
  case hrb => first | (go_simp; done) | (go_simp; rfl)
  intro g2_ hg w1_ hbox hb
  replace HB := Aside0.mk (below_step HB.out hb)
  replace ZZ := Aside0.mk (And.intro ZZ.out (show w.heap.size ≤ w1_.heap.size from hb.size))
  have BK2 := Aside0.mk hbox
  replace ZZ := Aside0.mk (And.intro ZZ.out (And.intro (show g2_ = w.heap.size from hg) (show g2_ < w1_.heap.size from blk_lt hbox)))
  clear hb hbox hg
  have hz_BK2_0 : w1_.cell? ⟨g2_, 0, none⟩ = some (.int .i64 0) := (blk_cell BK2.out 0).trans rfl
  have hz_BK2_1 : w1_.cell? ⟨g2_, 1, none⟩ = some (.int .i64 0) := (blk_cell BK2.out 1).trans rfl
  have hz_BK2_2 : w1_.cell? ⟨g2_, 2, none⟩ = some (.int .i64 0) := (blk_cell BK2.out 2).trans rfl
  have hz_BK2_3 : w1_.cell? ⟨g2_, 3, none⟩ = some (.slice none 0 0) := (blk_cell BK2.out 3).trans rfl
  go_wp2_with (first | (go_at_call 36; refine hold_here ?_))
  refine hold_go ?_
  refine (spec_UnpackWords.calls _ A0 c0 l0 q0 q1 W _ ?s1 ?s2 H_u.out).mono ?_
  case s1 => exact Kd.C_below HR0.out HB.out
  case s2 => exact HC0.out
  rintro e w2_ ⟨v, rfl, ho, hb⟩
  replace BK2 := Aside0.mk (blk_below BK2.out hb)
  replace HB := Aside0.mk (below_step HB.out hb)
  clear hz_BK2_0 hz_BK2_1 hz_BK2_2 hz_BK2_3
  replace ZZ := Aside0.mk (And.intro ZZ.out (show w1_.heap.size ≤ w2_.heap.size from hb.size))
  have hfo_ := Kd.S_form ho (by have := H_n.out; omega)
  obtain ⟨A_WS, c_WS, ev_, hc_WS, hA_WS⟩ := AR_of_S (base := w.heap.size) ho (show w.heap.size ≤ w1_.heap.size from (by have h_ := ZZ.out; omega))
  subst ev_
  have HC_WS := Aside0.mk hc_WS
  have WS := Aside0.mk (show AR w.heap.size w2_ w1_.heap.size w2_.heap.size A_WS W from hA_WS)
  clear hc_WS hA_WS ho
  obtain ⟨gw_, cw_, evw_, _⟩ := hfo_
  injection evw_ with eA_ _ eC_
  subst eA_ eC_
  clear hb
  have hz_BK2_0 : w2_.cell? ⟨g2_, 0, none⟩ = some (.int .i64 0) := (blk_cell BK2.out 0).trans rfl
  have hz_BK2_1 : w2_.cell? ⟨g2_, 1, none⟩ = some (.int .i64 0) := (blk_cell BK2.out 1).trans rfl
  have hz_BK2_2 : w2_.cell? ⟨g2_, 2, none⟩ = some (.int .i64 0) := (blk_cell BK2.out 2).trans rfl
  have hz_BK2_3 : w2_.cell? ⟨g2_, 3, none⟩ = some (.slice none 0 0) := (blk_cell BK2.out 3).trans rfl
  go_wp2_with (first | ((with_reducible refine gate_dst (N := 3) rfl ?_); refine hold_here ?_))
  refine hold_go ?_
  refine box_event (N := 3) (cs := #[.int .i64 0, .int .i64 0, .slice none 0 0]) (t := 50) ?hgb rfl ?hrb ?_
  case hgb => rfl
  case hrb => first | (go_simp; done) | (go_simp; rfl)
  intro g3_ hg w3_ hbox hb
  replace BK2 := Aside0.mk (blk_below BK2.out hb)
  replace WS := Aside0.mk (AR.below WS.out hb)
  replace HB := Aside0.mk (below_step HB.out hb)
  clear hz_BK2_0 hz_BK2_1 hz_BK2_2 hz_BK2_3
  replace ZZ := Aside0.mk (And.intro ZZ.out (show w2_.heap.size ≤ w3_.heap.size from hb.size))
  have BK3 := Aside0.mk hbox
  replace ZZ := Aside0.mk (And.intro ZZ.out (And.intro (show g3_ = w2_.heap.size from hg) (show g3_ < w3_.heap.size from blk_lt hbox)))
  clear hb hbox hg
  have hz_BK2_0 : w3_.cell? ⟨g2_, 0, none⟩ = some (.int .i64 0) := (blk_cell BK2.out 0).trans rfl
  have hz_BK2_1 : w3_.cell? ⟨g2_, 1, none⟩ = some (.int .i64 0) := (blk_cell BK2.out 1).trans rfl
  have hz_BK2_2 : w3_.cell? ⟨g2_, 2, none⟩ = some (.int .i64 0) := (blk_cell BK2.out 2).trans rfl
  have hz_BK2_3 : w3_.cell? ⟨g2_, 3, none⟩ = some (.slice none 0 0) := (blk_cell BK2.out 3).trans rfl
  have hz_BK3_0 : w3_.cell? ⟨g3_, 0, none⟩ = some (.int .i64 0) := (blk_cell BK3.out 0).trans rfl
  have hz_BK3_1 : w3_.cell? ⟨g3_, 1, none⟩ = some (.int .i64 0) := (blk_cell BK3.out 1).trans rfl
  have hz_BK3_2 : w3_.cell? ⟨g3_, 2, none⟩ = some (.slice none 0 0) := (blk_cell BK3.out 2).trans rfl
  go_wp2_with (first | ((with_reducible refine gate_store (t := 50) (p := 3) (v := .tmp 7) rfl ?_); refine hold_here ?_))
  refine hold_go ?_
  refine row_store rfl 50 (.tmp 3) (.tmp 7) rfl g3_ #[.int .i64 q0, .int .i64 q1, .slice (some ⟨gw_, 0, none⟩) W.length c_WS] rfl ?hy 50 _ BK3.out ?hi ?ho ?h1 rfl HB.out (show w.heap.size ≤ g3_ from (by have h_ := ZZ.out; omega)) ?_
  case hy => rfl
  case hi => kernel_rfl
  case ho => rfl
  case h1 => first | rfl | (simp [Value.oneCell']; done) | (go_simp; done)
  intro w4_ bo hk hb2
  clear BK3
  replace BK2 := Aside0.mk (blk_keptIn BK2.out hk (by have h_ := ZZ.out; omega))
  replace WS := Aside0.mk (AR.kept WS.out hk (by have h_ := ZZ.out; omega))
  replace HB := Aside0.mk hb2
  clear hz_BK2_0 hz_BK2_1 hz_BK2_2 hz_BK2_3 hz_BK3_0 hz_BK3_1 hz_BK3_2
  replace ZZ := Aside0.mk (And.intro ZZ.out (show w3_.heap.size ≤ w4_.heap.size from hk.1))
  have BK3 := Aside0.mk bo
  clear bo hk hb2
  have hz_BK2_0 : w4_.cell? ⟨g2_, 0, none⟩ = some (.int .i64 0) := (blk_cell BK2.out 0).trans rfl
  have hz_BK2_1 : w4_.cell? ⟨g2_, 1, none⟩ = some (.int .i64 0) := (blk_cell BK2.out 1).trans rfl
  have hz_BK2_2 : w4_.cell? ⟨g2_, 2, none⟩ = some (.int .i64 0) := (blk_cell BK2.out 2).trans rfl
  have hz_BK2_3 : w4_.cell? ⟨g2_, 3, none⟩ = some (.slice none 0 0) := (blk_cell BK2.out 3).trans rfl
  have hz_BK3_0 : w4_.cell? ⟨g3_, 0, none⟩ = some (.int .i64 q0) := (blk_cell BK3.out 0).trans rfl
  have hz_BK3_1 : w4_.cell? ⟨g3_, 1, none⟩ = some (.int .i64 q1) := (blk_cell BK3.out 1).trans rfl
  have hz_BK3_2 : w4_.cell? ⟨g3_, 2, none⟩ = some (.slice (some ⟨gw_, 0, none⟩) W.length c_WS) := (blk_cell BK3.out 2).trans rfl
  obtain ⟨ad_, B0_, d0_, eA_, hx0_, hl0_, hi0_⟩ := word_at (Kd.F_now (AR.foot WS.out)) 0 (by have := H_n.out; omega)
  obtain ⟨ad2_, B1_, d1_, eA2_, hx1_, hl1_, hi1_⟩ := word_at (Kd.F_now (AR.foot WS.out)) 1 (by have := H_n.out; omega)
  obtain rfl := Option.some.inj eA_
  obtain rfl := Option.some.inj eA2_
  rw [Addr.add_zero'] at hx0_
  replace hx1_ := (show w4_.cell? ⟨gw_, 1, none⟩ = _ from hx1_)
  obtain ⟨n0_, hn0_⟩ : ∃ n, W[0]!.length = n := ⟨_, rfl⟩
  rw [hn0_] at hx0_
  have cb_ : ((n0_ : Int) != 1) = true := bne_iff_ne.2 (by have := H_b.out; omega)
  clear hn0_ hl0_ hi0_ hl1_ hi1_ hx1_
  go_wp2_with (first | ((with_reducible refine gate_store (t := 95) (p := 2) (v := .tmp 32) rfl ?_); refine hold_here ?_))
  refine hold_go ?_
  refine row_store rfl 95 (.tmp 2) (.tmp 32) rfl g2_ #[.int .i64 5, .int .i64 0, .int .i64 0, .slice none 0 0] rfl ?hy 95 _ BK2.out ?hi ?ho ?h1 rfl HB.out (show w.heap.size ≤ g2_ from (by have h_ := ZZ.out; omega)) ?_
  case hy => rfl
  case hi => kernel_rfl
  case ho => rfl
  case h1 => first | rfl | (simp [Value.oneCell']; done) | (go_simp; done)
  intro w5_ bo hk hb2
  clear BK2
  replace WS := Aside0.mk (AR.kept WS.out hk (by have h_ := ZZ.out; omega))
  replace BK3 := Aside0.mk (blk_keptIn BK3.out hk (by have h_ := ZZ.out; omega))
  replace HB := Aside0.mk hb2
  clear hz_BK2_0 hz_BK2_1 hz_BK2_2 hz_BK2_3 hz_BK3_0 hz_BK3_1 hz_BK3_2
  replace ZZ := Aside0.mk (And.intro ZZ.out (show w4_.heap.size ≤ w5_.heap.size from hk.1))
  have BK2 := Aside0.mk bo
  clear bo hk hb2
  have hz_BK3_0 : w5_.cell? ⟨g3_, 0, none⟩ = some (.int .i64 q0) := (blk_cell BK3.out 0).trans rfl
  have hz_BK3_1 : w5_.cell? ⟨g3_, 1, none⟩ = some (.int .i64 q1) := (blk_cell BK3.out 1).trans rfl
  have hz_BK3_2 : w5_.cell? ⟨g3_, 2, none⟩ = some (.slice (some ⟨gw_, 0, none⟩) W.length c_WS) := (blk_cell BK3.out 2).trans rfl
  have hz_BK2_0 : w5_.cell? ⟨g2_, 0, none⟩ = some (.int .i64 5) := (blk_cell BK2.out 0).trans rfl
  have hz_BK2_1 : w5_.cell? ⟨g2_, 1, none⟩ = some (.int .i64 0) := (blk_cell BK2.out 1).trans rfl
  have hz_BK2_2 : w5_.cell? ⟨g2_, 2, none⟩ = some (.int .i64 0) := (blk_cell BK2.out 2).trans rfl
  have hz_BK2_3 : w5_.cell? ⟨g2_, 3, none⟩ = some (.slice none 0 0) := (blk_cell BK2.out 3).trans rfl
  go_wp2
  refine bodyPost_ret (results_cell_row rfl _ _ g2_ 95 #[.int .i64 5, .int .i64 0, .int .i64 0, .slice none 0 0] (0, 0) _ rfl BK2.out Try.underlying95 rfl (by kernel_rfl)) rfl ?_
  exact ⟨none, 0, rfl, Nat.le_refl _, AR.nil _ _ _ _ _, HB.out⟩
set_option maxHeartbeats 80000000 in
set_option maxRecDepth 100000 in
theorem spec_UnpackProof_C (ku : Nat) (A0 : Option Addr) (c0 : Nat) (l0 : List Int) (q0 q1 : Int) (W : List (List Int)) (x : Int) (w : World) (hr0 : Kd.C (Kd.int .u8) w A0 l0.length l0) (hc0 : l0.length ≤ c0) (h_u : spec_UnpackWords.f ku l0 = some (q0, q1, W)) (h_q : q0 = 0) (h_n : 2 ≤ W.length) (h_x : W[0]! = [x]) (h_b : W[1]!.length ≠ 1) :
    Calls Try.prog 79 #[.slice A0 l0.length c0] w fun e w' => ∃ A c, e = .returned (.agg #[.int .i64 5, .int .i64 0, .int .i64 0, .slice A ([] : List (List Int)).length c]) ∧ ([] : List (List Int)).length ≤ c ∧ AR w.heap.size w' w.heap.size w'.heap.size A ([] : List (List Int)) ∧ Below w.heap.size w w' := by
  have hu1_ := Try.underlying95
  have hu2_ := Try.underlying89
  have hu3_ := Try.underlying50
  have HR0 := Aside0.mk hr0
  have HC0 := Aside0.mk hc0
  have H_u := Aside0.mk h_u
  have H_q := Aside0.mk h_q
  have H_n := Aside0.mk h_n
  have H_x := Aside0.mk h_x
  have H_b := Aside0.mk h_b
  have HB := Aside0.mk (Below.refl w.heap.size w)
  have ZZ := Aside0.mk (Nat.le_refl w.heap.size)
  have cq0_ : (q0 == 0) = true := beq_iff_eq.2 h_q
  have cq1_ : (q0 != 0) = false := bne_eq_false_iff_eq.2 h_q
  have cn0_ : decide ((W.length : Int) < 2) = false := decide_eq_false (by omega)
  have cn1_ : decide (W.length < 2) = false := decide_eq_false (by omega)
  have cn2_ : (0 < W.length) = True := eq_true (by omega)
  have cn3_ : (1 < W.length) = True := eq_true (by omega)
  have cn4_ : ((0 : Int) < (W.length : Int)) = True := eq_true (by omega)
  have cn5_ : ((1 : Int) < (W.length : Int)) = True := eq_true (by omega)
  have cn6_ : ((2 : Int) ≤ (W.length : Int)) = True := eq_true (by omega)
  have cn7_ : (2 ≤ W.length) = True := eq_true (by omega)
  clear hr0 hc0 h_u h_q h_n h_x h_b
  go_enter Try.func79, Try.ntmps79
  go_wp2_with (first | ((with_reducible refine gate_dst (N := 2) rfl ?_); refine hold_here ?_))
  refine hold_go ?_
  refine box_event (N := 2) (cs := #[.int .i64 0, .int .i64 0, .int .i64 0, .slice none 0 0]) (t := 95) ?hgb rfl ?hrb ?_
  case hgb => rfl
  case hrb => first | (go_simp; done) | (go_simp; rfl)
  intro g2_ hg w1_ hbox hb
  replace HB := Aside0.mk (below_step HB.out hb)
  replace ZZ := Aside0.mk (And.intro ZZ.out (show w.heap.size ≤ w1_.heap.size from hb.size))
  have BK2 := Aside0.mk hbox
  replace ZZ := Aside0.mk (And.intro ZZ.out (And.intro (show g2_ = w.heap.size from hg) (show g2_ < w1_.heap.size from blk_lt hbox)))
  clear hb hbox hg
  have hz_BK2_0 : w1_.cell? ⟨g2_, 0, none⟩ = some (.int .i64 0) := (blk_cell BK2.out 0).trans rfl
  have hz_BK2_1 : w1_.cell? ⟨g2_, 1, none⟩ = some (.int .i64 0) := (blk_cell BK2.out 1).trans rfl
  have hz_BK2_2 : w1_.cell? ⟨g2_, 2, none⟩ = some (.int .i64 0) := (blk_cell BK2.out 2).trans rfl
  have hz_BK2_3 : w1_.cell? ⟨g2_, 3, none⟩ = some (.slice none 0 0) := (blk_cell BK2.out 3).trans rfl
  go_wp2_with (first | (go_at_call 36; refine hold_here ?_))
  refine hold_go ?_
  refine (spec_UnpackWords.calls _ A0 c0 l0 q0 q1 W _ ?s1 ?s2 H_u.out).mono ?_
  case s1 => exact Kd.C_below HR0.out HB.out
  case s2 => exact HC0.out
  rintro e w2_ ⟨v, rfl, ho, hb⟩
  replace BK2 := Aside0.mk (blk_below BK2.out hb)
  replace HB := Aside0.mk (below_step HB.out hb)
  clear hz_BK2_0 hz_BK2_1 hz_BK2_2 hz_BK2_3
  replace ZZ := Aside0.mk (And.intro ZZ.out (show w1_.heap.size ≤ w2_.heap.size from hb.size))
  have hfo_ := Kd.S_form ho (by have := H_n.out; omega)
  obtain ⟨A_WS, c_WS, ev_, hc_WS, hA_WS⟩ := AR_of_S (base := w.heap.size) ho (show w.heap.size ≤ w1_.heap.size from (by have h_ := ZZ.out; omega))
  subst ev_
  have HC_WS := Aside0.mk hc_WS
  have WS := Aside0.mk (show AR w.heap.size w2_ w1_.heap.size w2_.heap.size A_WS W from hA_WS)
  clear hc_WS hA_WS ho
  obtain ⟨gw_, cw_, evw_, _⟩ := hfo_
  injection evw_ with eA_ _ eC_
  subst eA_ eC_
  clear hb
  have hz_BK2_0 : w2_.cell? ⟨g2_, 0, none⟩ = some (.int .i64 0) := (blk_cell BK2.out 0).trans rfl
  have hz_BK2_1 : w2_.cell? ⟨g2_, 1, none⟩ = some (.int .i64 0) := (blk_cell BK2.out 1).trans rfl
  have hz_BK2_2 : w2_.cell? ⟨g2_, 2, none⟩ = some (.int .i64 0) := (blk_cell BK2.out 2).trans rfl
  have hz_BK2_3 : w2_.cell? ⟨g2_, 3, none⟩ = some (.slice none 0 0) := (blk_cell BK2.out 3).trans rfl
  go_wp2_with (first | ((with_reducible refine gate_dst (N := 3) rfl ?_); refine hold_here ?_))
  refine hold_go ?_
  refine box_event (N := 3) (cs := #[.int .i64 0, .int .i64 0, .slice none 0 0]) (t := 50) ?hgb rfl ?hrb ?_
  case hgb => rfl
  case hrb => first | (go_simp; done) | (go_simp; rfl)
  intro g3_ hg w3_ hbox hb
  replace BK2 := Aside0.mk (blk_below BK2.out hb)
  replace WS := Aside0.mk (AR.below WS.out hb)
  replace HB := Aside0.mk (below_step HB.out hb)
  clear hz_BK2_0 hz_BK2_1 hz_BK2_2 hz_BK2_3
  replace ZZ := Aside0.mk (And.intro ZZ.out (show w2_.heap.size ≤ w3_.heap.size from hb.size))
  have BK3 := Aside0.mk hbox
  replace ZZ := Aside0.mk (And.intro ZZ.out (And.intro (show g3_ = w2_.heap.size from hg) (show g3_ < w3_.heap.size from blk_lt hbox)))
  clear hb hbox hg
  have hz_BK2_0 : w3_.cell? ⟨g2_, 0, none⟩ = some (.int .i64 0) := (blk_cell BK2.out 0).trans rfl
  have hz_BK2_1 : w3_.cell? ⟨g2_, 1, none⟩ = some (.int .i64 0) := (blk_cell BK2.out 1).trans rfl
  have hz_BK2_2 : w3_.cell? ⟨g2_, 2, none⟩ = some (.int .i64 0) := (blk_cell BK2.out 2).trans rfl
  have hz_BK2_3 : w3_.cell? ⟨g2_, 3, none⟩ = some (.slice none 0 0) := (blk_cell BK2.out 3).trans rfl
  have hz_BK3_0 : w3_.cell? ⟨g3_, 0, none⟩ = some (.int .i64 0) := (blk_cell BK3.out 0).trans rfl
  have hz_BK3_1 : w3_.cell? ⟨g3_, 1, none⟩ = some (.int .i64 0) := (blk_cell BK3.out 1).trans rfl
  have hz_BK3_2 : w3_.cell? ⟨g3_, 2, none⟩ = some (.slice none 0 0) := (blk_cell BK3.out 2).trans rfl
  go_wp2_with (first | ((with_reducible refine gate_store (t := 50) (p := 3) (v := .tmp 7) rfl ?_); refine hold_here ?_))
  refine hold_go ?_
  refine row_store rfl 50 (.tmp 3) (.tmp 7) rfl g3_ #[.int .i64 q0, .int .i64 q1, .slice (some ⟨gw_, 0, none⟩) W.length c_WS] rfl ?hy 50 _ BK3.out ?hi ?ho ?h1 rfl HB.out (show w.heap.size ≤ g3_ from (by have h_ := ZZ.out; omega)) ?_
  case hy => rfl
  case hi => kernel_rfl
  case ho => rfl
  case h1 => first | rfl | (simp [Value.oneCell']; done) | (go_simp; done)
  intro w4_ bo hk hb2
  clear BK3
  replace BK2 := Aside0.mk (blk_keptIn BK2.out hk (by have h_ := ZZ.out; omega))
  replace WS := Aside0.mk (AR.kept WS.out hk (by have h_ := ZZ.out; omega))
  replace HB := Aside0.mk hb2
  clear hz_BK2_0 hz_BK2_1 hz_BK2_2 hz_BK2_3 hz_BK3_0 hz_BK3_1 hz_BK3_2
  replace ZZ := Aside0.mk (And.intro ZZ.out (show w3_.heap.size ≤ w4_.heap.size from hk.1))
  have BK3 := Aside0.mk bo
  clear bo hk hb2
  have hz_BK2_0 : w4_.cell? ⟨g2_, 0, none⟩ = some (.int .i64 0) := (blk_cell BK2.out 0).trans rfl
  have hz_BK2_1 : w4_.cell? ⟨g2_, 1, none⟩ = some (.int .i64 0) := (blk_cell BK2.out 1).trans rfl
  have hz_BK2_2 : w4_.cell? ⟨g2_, 2, none⟩ = some (.int .i64 0) := (blk_cell BK2.out 2).trans rfl
  have hz_BK2_3 : w4_.cell? ⟨g2_, 3, none⟩ = some (.slice none 0 0) := (blk_cell BK2.out 3).trans rfl
  have hz_BK3_0 : w4_.cell? ⟨g3_, 0, none⟩ = some (.int .i64 q0) := (blk_cell BK3.out 0).trans rfl
  have hz_BK3_1 : w4_.cell? ⟨g3_, 1, none⟩ = some (.int .i64 q1) := (blk_cell BK3.out 1).trans rfl
  have hz_BK3_2 : w4_.cell? ⟨g3_, 2, none⟩ = some (.slice (some ⟨gw_, 0, none⟩) W.length c_WS) := (blk_cell BK3.out 2).trans rfl
  obtain ⟨ad_, B0_, d0_, eA_, hx0_, hl0_, hi0_⟩ := word_at (Kd.F_now (AR.foot WS.out)) 0 (by have := H_n.out; omega)
  obtain ⟨ad2_, B1_, d1_, eA2_, hx1_, hl1_, hi1_⟩ := word_at (Kd.F_now (AR.foot WS.out)) 1 (by have := H_n.out; omega)
  obtain rfl := Option.some.inj eA_
  obtain rfl := Option.some.inj eA2_
  rw [Addr.add_zero'] at hx0_
  replace hx1_ := (show w4_.cell? ⟨gw_, 1, none⟩ = _ from hx1_)
  rw [H_x.out] at hx0_
  obtain ⟨n1_, hn1_⟩ : ∃ n, W[1]!.length = n := ⟨_, rfl⟩
  rw [hn1_] at hx1_
  have cb_ : ((n1_ : Int) != 1) = true := bne_iff_ne.2 (by have := H_b.out; omega)
  simp only [List.length_cons, List.length_nil, Nat.zero_add] at hx0_
  clear hn1_ hl0_ hi0_ hl1_ hi1_
  go_wp2_with (first | ((with_reducible refine gate_store (t := 95) (p := 2) (v := .tmp 32) rfl ?_); refine hold_here ?_))
  refine hold_go ?_
  refine row_store rfl 95 (.tmp 2) (.tmp 32) rfl g2_ #[.int .i64 5, .int .i64 0, .int .i64 0, .slice none 0 0] rfl ?hy 95 _ BK2.out ?hi ?ho ?h1 rfl HB.out (show w.heap.size ≤ g2_ from (by have h_ := ZZ.out; omega)) ?_
  case hy => rfl
  case hi => kernel_rfl
  case ho => rfl
  case h1 => first | rfl | (simp [Value.oneCell']; done) | (go_simp; done)
  intro w5_ bo hk hb2
  clear BK2
  replace WS := Aside0.mk (AR.kept WS.out hk (by have h_ := ZZ.out; omega))
  replace BK3 := Aside0.mk (blk_keptIn BK3.out hk (by have h_ := ZZ.out; omega))
  replace HB := Aside0.mk hb2
  clear hz_BK2_0 hz_BK2_1 hz_BK2_2 hz_BK2_3 hz_BK3_0 hz_BK3_1 hz_BK3_2
  replace ZZ := Aside0.mk (And.intro ZZ.out (show w4_.heap.size ≤ w5_.heap.size from hk.1))
  have BK2 := Aside0.mk bo
  clear bo hk hb2
  have hz_BK3_0 : w5_.cell? ⟨g3_, 0, none⟩ = some (.int .i64 q0) := (blk_cell BK3.out 0).trans rfl
  have hz_BK3_1 : w5_.cell? ⟨g3_, 1, none⟩ = some (.int .i64 q1) := (blk_cell BK3.out 1).trans rfl
  have hz_BK3_2 : w5_.cell? ⟨g3_, 2, none⟩ = some (.slice (some ⟨gw_, 0, none⟩) W.length c_WS) := (blk_cell BK3.out 2).trans rfl
  have hz_BK2_0 : w5_.cell? ⟨g2_, 0, none⟩ = some (.int .i64 5) := (blk_cell BK2.out 0).trans rfl
  have hz_BK2_1 : w5_.cell? ⟨g2_, 1, none⟩ = some (.int .i64 0) := (blk_cell BK2.out 1).trans rfl
  have hz_BK2_2 : w5_.cell? ⟨g2_, 2, none⟩ = some (.int .i64 0) := (blk_cell BK2.out 2).trans rfl
  have hz_BK2_3 : w5_.cell? ⟨g2_, 3, none⟩ = some (.slice none 0 0) := (blk_cell BK2.out 3).trans rfl
  go_wp2
  refine bodyPost_ret (results_cell_row rfl _ _ g2_ 95 #[.int .i64 5, .int .i64 0, .int .i64 0, .slice none 0 0] (0, 0) _ rfl BK2.out Try.underlying95 rfl (by kernel_rfl)) rfl ?_
  exact ⟨none, 0, rfl, Nat.le_refl _, AR.nil _ _ _ _ _, HB.out⟩
set_option maxHeartbeats 80000000 in
set_option maxRecDepth 100000 in
theorem spec_UnpackProof_D (ku : Nat) (A0 : Option Addr) (c0 : Nat) (l0 : List Int) (q0 q1 : Int) (W : List (List Int)) (x : Int) (y : Int) (ps : List (List Int)) (b : Bool) (kp : Nat) (w : World) (hr0 : Kd.C (Kd.int .u8) w A0 l0.length l0) (hc0 : l0.length ≤ c0) (h_u : spec_UnpackWords.f ku l0 = some (q0, q1, W)) (h_q : q0 = 0) (h_n : 2 ≤ W.length) (h_x : W[0]! = [x]) (h_y : W[1]! = [y]) (h_bx : 0 ≤ x ∧ x ≤ 255) (h_by : 0 ≤ y ∧ y ≤ 255) (h_d : W.drop 2 = ps) (h_p : spec_l3Right.f kp x y ps = some b) :
    Calls Try.prog 79 #[.slice A0 l0.length c0] w fun e w' => ∃ A c, e = .returned (.agg #[.int .i64 (cond b 0 5), .int .i64 (cond b x 0), .int .i64 (cond b y 0), .slice A (cond b ps []).length c]) ∧ (cond b ps []).length ≤ c ∧ AR w.heap.size w' w.heap.size w'.heap.size A (cond b ps []) ∧ Below w.heap.size w w' := by
  have hu1_ := Try.underlying95
  have hu2_ := Try.underlying89
  have hu3_ := Try.underlying50
  have HR0 := Aside0.mk hr0
  have HC0 := Aside0.mk hc0
  have H_u := Aside0.mk h_u
  have H_q := Aside0.mk h_q
  have H_n := Aside0.mk h_n
  have H_x := Aside0.mk h_x
  have H_y := Aside0.mk h_y
  have H_bx := Aside0.mk h_bx
  have H_by := Aside0.mk h_by
  have H_d := Aside0.mk h_d
  have H_p := Aside0.mk h_p
  have HB := Aside0.mk (Below.refl w.heap.size w)
  have ZZ := Aside0.mk (Nat.le_refl w.heap.size)
  have cq0_ : (q0 == 0) = true := beq_iff_eq.2 h_q
  have cq1_ : (q0 != 0) = false := bne_eq_false_iff_eq.2 h_q
  have cn0_ : decide ((W.length : Int) < 2) = false := decide_eq_false (by omega)
  have cn1_ : decide (W.length < 2) = false := decide_eq_false (by omega)
  have cn2_ : (0 < W.length) = True := eq_true (by omega)
  have cn3_ : (1 < W.length) = True := eq_true (by omega)
  have cn4_ : ((0 : Int) < (W.length : Int)) = True := eq_true (by omega)
  have cn5_ : ((1 : Int) < (W.length : Int)) = True := eq_true (by omega)
  have cn6_ : ((2 : Int) ≤ (W.length : Int)) = True := eq_true (by omega)
  have cn7_ : (2 ≤ W.length) = True := eq_true (by omega)
  clear hr0 hc0 h_u h_q h_n h_x h_y h_bx h_by h_d h_p
  go_enter Try.func79, Try.ntmps79
  go_wp2_with (first | ((with_reducible refine gate_dst (N := 2) rfl ?_); refine hold_here ?_))
  refine hold_go ?_
  refine box_event (N := 2) (cs := #[.int .i64 0, .int .i64 0, .int .i64 0, .slice none 0 0]) (t := 95) ?hgb rfl ?hrb ?_
  case hgb => rfl
  case hrb => first | (go_simp; done) | (go_simp; rfl)
  intro g2_ hg w1_ hbox hb
  replace HB := Aside0.mk (below_step HB.out hb)
  replace ZZ := Aside0.mk (And.intro ZZ.out (show w.heap.size ≤ w1_.heap.size from hb.size))
  have BK2 := Aside0.mk hbox
  replace ZZ := Aside0.mk (And.intro ZZ.out (And.intro (show g2_ = w.heap.size from hg) (show g2_ < w1_.heap.size from blk_lt hbox)))
  clear hb hbox hg
  have hz_BK2_0 : w1_.cell? ⟨g2_, 0, none⟩ = some (.int .i64 0) := (blk_cell BK2.out 0).trans rfl
  have hz_BK2_1 : w1_.cell? ⟨g2_, 1, none⟩ = some (.int .i64 0) := (blk_cell BK2.out 1).trans rfl
  have hz_BK2_2 : w1_.cell? ⟨g2_, 2, none⟩ = some (.int .i64 0) := (blk_cell BK2.out 2).trans rfl
  have hz_BK2_3 : w1_.cell? ⟨g2_, 3, none⟩ = some (.slice none 0 0) := (blk_cell BK2.out 3).trans rfl
  go_wp2_with (first | (go_at_call 36; refine hold_here ?_))
  refine hold_go ?_
  refine (spec_UnpackWords.calls _ A0 c0 l0 q0 q1 W _ ?s1 ?s2 H_u.out).mono ?_
  case s1 => exact Kd.C_below HR0.out HB.out
  case s2 => exact HC0.out
  rintro e w2_ ⟨v, rfl, ho, hb⟩
  replace BK2 := Aside0.mk (blk_below BK2.out hb)
  replace HB := Aside0.mk (below_step HB.out hb)
  clear hz_BK2_0 hz_BK2_1 hz_BK2_2 hz_BK2_3
  replace ZZ := Aside0.mk (And.intro ZZ.out (show w1_.heap.size ≤ w2_.heap.size from hb.size))
  have hfo_ := Kd.S_form ho (by have := H_n.out; omega)
  obtain ⟨A_WS, c_WS, ev_, hc_WS, hA_WS⟩ := AR_of_S (base := w.heap.size) ho (show w.heap.size ≤ w1_.heap.size from (by have h_ := ZZ.out; omega))
  subst ev_
  have HC_WS := Aside0.mk hc_WS
  have WS := Aside0.mk (show AR w.heap.size w2_ w1_.heap.size w2_.heap.size A_WS W from hA_WS)
  clear hc_WS hA_WS ho
  obtain ⟨gw_, cw_, evw_, _⟩ := hfo_
  injection evw_ with eA_ _ eC_
  subst eA_ eC_
  clear hb
  have hz_BK2_0 : w2_.cell? ⟨g2_, 0, none⟩ = some (.int .i64 0) := (blk_cell BK2.out 0).trans rfl
  have hz_BK2_1 : w2_.cell? ⟨g2_, 1, none⟩ = some (.int .i64 0) := (blk_cell BK2.out 1).trans rfl
  have hz_BK2_2 : w2_.cell? ⟨g2_, 2, none⟩ = some (.int .i64 0) := (blk_cell BK2.out 2).trans rfl
  have hz_BK2_3 : w2_.cell? ⟨g2_, 3, none⟩ = some (.slice none 0 0) := (blk_cell BK2.out 3).trans rfl
  go_wp2_with (first | ((with_reducible refine gate_dst (N := 3) rfl ?_); refine hold_here ?_))
  refine hold_go ?_
  refine box_event (N := 3) (cs := #[.int .i64 0, .int .i64 0, .slice none 0 0]) (t := 50) ?hgb rfl ?hrb ?_
  case hgb => rfl
  case hrb => first | (go_simp; done) | (go_simp; rfl)
  intro g3_ hg w3_ hbox hb
  replace BK2 := Aside0.mk (blk_below BK2.out hb)
  replace WS := Aside0.mk (AR.below WS.out hb)
  replace HB := Aside0.mk (below_step HB.out hb)
  clear hz_BK2_0 hz_BK2_1 hz_BK2_2 hz_BK2_3
  replace ZZ := Aside0.mk (And.intro ZZ.out (show w2_.heap.size ≤ w3_.heap.size from hb.size))
  have BK3 := Aside0.mk hbox
  replace ZZ := Aside0.mk (And.intro ZZ.out (And.intro (show g3_ = w2_.heap.size from hg) (show g3_ < w3_.heap.size from blk_lt hbox)))
  clear hb hbox hg
  have hz_BK2_0 : w3_.cell? ⟨g2_, 0, none⟩ = some (.int .i64 0) := (blk_cell BK2.out 0).trans rfl
  have hz_BK2_1 : w3_.cell? ⟨g2_, 1, none⟩ = some (.int .i64 0) := (blk_cell BK2.out 1).trans rfl
  have hz_BK2_2 : w3_.cell? ⟨g2_, 2, none⟩ = some (.int .i64 0) := (blk_cell BK2.out 2).trans rfl
  have hz_BK2_3 : w3_.cell? ⟨g2_, 3, none⟩ = some (.slice none 0 0) := (blk_cell BK2.out 3).trans rfl
  have hz_BK3_0 : w3_.cell? ⟨g3_, 0, none⟩ = some (.int .i64 0) := (blk_cell BK3.out 0).trans rfl
  have hz_BK3_1 : w3_.cell? ⟨g3_, 1, none⟩ = some (.int .i64 0) := (blk_cell BK3.out 1).trans rfl
  have hz_BK3_2 : w3_.cell? ⟨g3_, 2, none⟩ = some (.slice none 0 0) := (blk_cell BK3.out 2).trans rfl
  go_wp2_with (first | ((with_reducible refine gate_store (t := 50) (p := 3) (v := .tmp 7) rfl ?_); refine hold_here ?_))
  refine hold_go ?_
  refine row_store rfl 50 (.tmp 3) (.tmp 7) rfl g3_ #[.int .i64 q0, .int .i64 q1, .slice (some ⟨gw_, 0, none⟩) W.length c_WS] rfl ?hy 50 _ BK3.out ?hi ?ho ?h1 rfl HB.out (show w.heap.size ≤ g3_ from (by have h_ := ZZ.out; omega)) ?_
  case hy => rfl
  case hi => kernel_rfl
  case ho => rfl
  case h1 => first | rfl | (simp [Value.oneCell']; done) | (go_simp; done)
  intro w4_ bo hk hb2
  clear BK3
  replace BK2 := Aside0.mk (blk_keptIn BK2.out hk (by have h_ := ZZ.out; omega))
  replace WS := Aside0.mk (AR.kept WS.out hk (by have h_ := ZZ.out; omega))
  replace HB := Aside0.mk hb2
  clear hz_BK2_0 hz_BK2_1 hz_BK2_2 hz_BK2_3 hz_BK3_0 hz_BK3_1 hz_BK3_2
  replace ZZ := Aside0.mk (And.intro ZZ.out (show w3_.heap.size ≤ w4_.heap.size from hk.1))
  have BK3 := Aside0.mk bo
  clear bo hk hb2
  have hz_BK2_0 : w4_.cell? ⟨g2_, 0, none⟩ = some (.int .i64 0) := (blk_cell BK2.out 0).trans rfl
  have hz_BK2_1 : w4_.cell? ⟨g2_, 1, none⟩ = some (.int .i64 0) := (blk_cell BK2.out 1).trans rfl
  have hz_BK2_2 : w4_.cell? ⟨g2_, 2, none⟩ = some (.int .i64 0) := (blk_cell BK2.out 2).trans rfl
  have hz_BK2_3 : w4_.cell? ⟨g2_, 3, none⟩ = some (.slice none 0 0) := (blk_cell BK2.out 3).trans rfl
  have hz_BK3_0 : w4_.cell? ⟨g3_, 0, none⟩ = some (.int .i64 q0) := (blk_cell BK3.out 0).trans rfl
  have hz_BK3_1 : w4_.cell? ⟨g3_, 1, none⟩ = some (.int .i64 q1) := (blk_cell BK3.out 1).trans rfl
  have hz_BK3_2 : w4_.cell? ⟨g3_, 2, none⟩ = some (.slice (some ⟨gw_, 0, none⟩) W.length c_WS) := (blk_cell BK3.out 2).trans rfl
  obtain ⟨ad_, B0_, d0_, eA_, hx0_, hl0_, hi0_⟩ := word_at (Kd.F_now (AR.foot WS.out)) 0 (by have := H_n.out; omega)
  obtain ⟨ad2_, B1_, d1_, eA2_, hx1_, hl1_, hi1_⟩ := word_at (Kd.F_now (AR.foot WS.out)) 1 (by have := H_n.out; omega)
  obtain rfl := Option.some.inj eA_
  obtain rfl := Option.some.inj eA2_
  rw [Addr.add_zero'] at hx0_
  replace hx1_ := (show w4_.cell? ⟨gw_, 1, none⟩ = _ from hx1_)
  rw [H_x.out] at hx0_ hi0_
  rw [H_y.out] at hx1_ hi1_
  simp only [List.length_cons, List.length_nil, Nat.zero_add] at hx0_ hx1_ hi0_ hi1_
  obtain ⟨b0_, e0_, hv0_⟩ := byte_at hi0_
  obtain ⟨b1_, e1_, hv1_⟩ := byte_at hi1_
  subst e0_ e1_
  clear hi0_ hi1_ hl0_ hl1_
  try go_wp2_with fail
  replace BK2 := Aside0.mk (blk_drew BK2.out)
  replace WS := Aside0.mk (AR.drew WS.out)
  replace BK3 := Aside0.mk (blk_drew BK3.out)
  replace HB := Aside0.mk (below_drew1 HB.out)
  replace ZZ := Aside0.mk (And.intro ZZ.out (show w4_.heap.size ≤ w4_.drew.heap.size from Nat.le_refl _))
  clear hz_BK2_0 hz_BK2_1 hz_BK2_2 hz_BK2_3 hz_BK3_0 hz_BK3_1 hz_BK3_2
  refine start_ (n := 17) (S := fun w' => w'.cell? (⟨gw_, 0, none⟩) = some (.slice (some b0_) 1 d0_) ∧ w'.cell? (⟨gw_, 1, none⟩) = some (.slice (some b1_) 1 d1_) ∧ w'.cell? (b0_) = some (.int .u8 x) ∧ w'.cell? (b1_) = some (.int .u8 y)) (ds := [16]) #[false, false, false, false, false, false, false, false, false, false, false, false, false, false, false, false, false] (by kernel_rfl) rfl rfl ⟨hx0_, hx1_, hv0_, hv1_⟩ (fun hHeld => ?_)
  generalize w4_.drew = w5_ at BK2 WS BK3 HB ZZ hHeld ⊢
  clear hx0_ hx1_ hv0_ hv1_
  have HWX := Aside0.mk (w64 (n := x) (by have := H_bx.out; omega) (by have := H_bx.out; omega))
  have HWY := Aside0.mk (w64 (n := y) (by have := H_by.out; omega) (by have := H_by.out; omega))
  have hPS_ := AR.drop WS.out 2 c_WS H_n.out HC_WS.out
  rw [H_d.out] at hPS_
  obtain ⟨A_PS, eAP_⟩ : ∃ A : Option Addr, (if c_WS = 2 then some ⟨gw_, 0, none⟩ else some ⟨gw_, 2, none⟩) = A := ⟨_, rfl⟩
  rw [show (if c_WS = 2 then some (⟨gw_, 0, none⟩ : Addr) else (some (⟨gw_, 0, none⟩ : Addr)).map (·.add 2)) = A_PS from eAP_] at hPS_
  obtain ⟨c_PS, eCP_⟩ : ∃ c, c_WS - 2 = c := ⟨_, rfl⟩
  have hdl_ := congrArg List.length H_d.out
  rw [List.length_drop] at hdl_
  have HC_PS := Aside0.mk (show ps.length ≤ c_PS by have := HC_WS.out; omega)
  have PS := Aside0.mk hPS_
  have EAP := Aside0.mk eAP_
  have ECP := Aside0.mk eCP_
  have EDL := Aside0.mk hdl_
  clear hPS_ eAP_ eCP_ hdl_ WS
  refine pure_ (i := 0) (N := some 33) (v := ?_) (a' := ?_) #[true, false, false, false, false, false, false, false, false, false, false, false, false, false, false, false, false] rfl rfl (by kernel_rfl) (fun _ _ _ h => h) (Or.inl ⟨by rfl, ?_⟩) ?_ ?_
  rotate_left
  · intro w'
    go_simp
    with_reducible rfl
  rotate_left
  · simp only [Act.put, List.setIfInBounds_toArray, List.set_cons_zero, List.set_cons_succ, i64_w, i32_w]
    rfl
  refine pure_ (i := 1) (N := some 34) (v := ?_) (a' := ?_) #[true, true, false, false, false, false, false, false, false, false, false, false, false, false, false, false, false] rfl rfl (by kernel_rfl) (fun _ _ _ h => h) (Or.inl ⟨by rfl, ?_⟩) ?_ ?_
  rotate_left
  · intro w'
    go_simp
    with_reducible rfl
  rotate_left
  · simp only [Act.put, List.setIfInBounds_toArray, List.set_cons_zero, List.set_cons_succ, i64_w, i32_w]
    rfl
  refine take_ (i := 2) (N := some 35) (v := ?_) (a' := ?_) #[true, true, true, false, false, false, false, false, false, false, false, false, false, false, false, false, false] rfl rfl (by kernel_rfl) (fun _ _ _ h => h) (Or.inl ⟨by rfl, ?_⟩) hHeld ?_ ?_
  rotate_left
  · rintro w' ⟨s0, s1, s2, s3⟩
    go_simp
    with_reducible rfl
  rotate_left
  · simp only [Act.put, List.setIfInBounds_toArray, List.set_cons_zero, List.set_cons_succ, i64_w, i32_w]
    rfl
  refine pure_ (i := 3) (N := some 36) (v := ?_) (a' := ?_) #[true, true, true, true, false, false, false, false, false, false, false, false, false, false, false, false, false] rfl rfl (by kernel_rfl) (fun _ _ _ h => h) (Or.inl ⟨by rfl, ?_⟩) ?_ ?_
  rotate_left
  · intro w'
    go_simp
    with_reducible rfl
  rotate_left
  · simp only [Act.put, List.setIfInBounds_toArray, List.set_cons_zero, List.set_cons_succ, i64_w, i32_w]
    rfl
  refine take_ (i := 4) (N := some 37) (v := ?_) (a' := ?_) #[true, true, true, true, true, false, false, false, false, false, false, false, false, false, false, false, false] rfl rfl (by kernel_rfl) (fun _ _ _ h => h) (Or.inl ⟨by rfl, ?_⟩) hHeld ?_ ?_
  rotate_left
  · rintro w' ⟨s0, s1, s2, s3⟩
    go_simp
    with_reducible rfl
  rotate_left
  · simp only [Act.put, List.setIfInBounds_toArray, List.set_cons_zero, List.set_cons_succ, i64_w, i32_w]
    rfl
  refine pure_ (i := 5) (N := some 38) (v := .int .i64 x) (a' := ?_) #[true, true, true, true, true, true, false, false, false, false, false, false, false, false, false, false, false] rfl rfl (by kernel_rfl) (fun _ _ _ h => h) (Or.inl ⟨by rfl, ?_⟩) ?_ ?_
  · intro w'
    go_simp
    first | done | (simp only [i64_w, HWX.out]; done) | rw [i64_w, HWX.out]
  rotate_left
  · simp only [Act.put, List.setIfInBounds_toArray, List.set_cons_zero, List.set_cons_succ, i64_w, i32_w]
    rfl
  refine pure_ (i := 6) (N := some 39) (v := ?_) (a' := ?_) #[true, true, true, true, true, true, true, false, false, false, false, false, false, false, false, false, false] rfl rfl (by kernel_rfl) (fun _ _ _ h => h) (Or.inl ⟨by rfl, ?_⟩) ?_ ?_
  rotate_left
  · intro w'
    go_simp
    with_reducible rfl
  rotate_left
  · simp only [Act.put, List.setIfInBounds_toArray, List.set_cons_zero, List.set_cons_succ, i64_w, i32_w]
    rfl
  refine pure_ (i := 7) (N := some 40) (v := ?_) (a' := ?_) #[true, true, true, true, true, true, true, true, false, false, false, false, false, false, false, false, false] rfl rfl (by kernel_rfl) (fun _ _ _ h => h) (Or.inl ⟨by rfl, ?_⟩) ?_ ?_
  rotate_left
  · intro w'
    go_simp
    with_reducible rfl
  rotate_left
  · simp only [Act.put, List.setIfInBounds_toArray, List.set_cons_zero, List.set_cons_succ, i64_w, i32_w]
    rfl
  refine take_ (i := 8) (N := some 41) (v := ?_) (a' := ?_) #[true, true, true, true, true, true, true, true, true, false, false, false, false, false, false, false, false] rfl rfl (by kernel_rfl) (fun _ _ _ h => h) (Or.inl ⟨by rfl, ?_⟩) hHeld ?_ ?_
  rotate_left
  · rintro w' ⟨s0, s1, s2, s3⟩
    go_simp
    with_reducible rfl
  rotate_left
  · simp only [Act.put, List.setIfInBounds_toArray, List.set_cons_zero, List.set_cons_succ, i64_w, i32_w]
    rfl
  refine pure_ (i := 9) (N := some 42) (v := ?_) (a' := ?_) #[true, true, true, true, true, true, true, true, true, true, false, false, false, false, false, false, false] rfl rfl (by kernel_rfl) (fun _ _ _ h => h) (Or.inl ⟨by rfl, ?_⟩) ?_ ?_
  rotate_left
  · intro w'
    go_simp
    with_reducible rfl
  rotate_left
  · simp only [Act.put, List.setIfInBounds_toArray, List.set_cons_zero, List.set_cons_succ, i64_w, i32_w]
    rfl
  refine take_ (i := 10) (N := some 43) (v := ?_) (a' := ?_) #[true, true, true, true, true, true, true, true, true, true, true, false, false, false, false, false, false] rfl rfl (by kernel_rfl) (fun _ _ _ h => h) (Or.inl ⟨by rfl, ?_⟩) hHeld ?_ ?_
  rotate_left
  · rintro w' ⟨s0, s1, s2, s3⟩
    go_simp
    with_reducible rfl
  rotate_left
  · simp only [Act.put, List.setIfInBounds_toArray, List.set_cons_zero, List.set_cons_succ, i64_w, i32_w]
    rfl
  refine pure_ (i := 11) (N := some 44) (v := .int .i64 y) (a' := ?_) #[true, true, true, true, true, true, true, true, true, true, true, true, false, false, false, false, false] rfl rfl (by kernel_rfl) (fun _ _ _ h => h) (Or.inl ⟨by rfl, ?_⟩) ?_ ?_
  · intro w'
    go_simp
    first | done | (simp only [i64_w, HWY.out]; done) | rw [i64_w, HWY.out]
  rotate_left
  · simp only [Act.put, List.setIfInBounds_toArray, List.set_cons_zero, List.set_cons_succ, i64_w, i32_w]
    rfl
  refine pure_ (i := 12) (N := some 45) (v := ?_) (a' := ?_) #[true, true, true, true, true, true, true, true, true, true, true, true, true, false, false, false, false] rfl rfl (by kernel_rfl) (fun _ _ _ h => h) (Or.inl ⟨by rfl, ?_⟩) ?_ ?_
  rotate_left
  · intro w'
    go_simp
    with_reducible rfl
  rotate_left
  · simp only [Act.put, List.setIfInBounds_toArray, List.set_cons_zero, List.set_cons_succ, i64_w, i32_w]
    rfl
  refine pure_ (i := 13) (N := some 46) (v := .slice A_PS ps.length c_PS) (a' := ?_) #[true, true, true, true, true, true, true, true, true, true, true, true, true, true, false, false, false] rfl rfl (by kernel_rfl) (fun _ _ _ h => h) (Or.inl ⟨by rfl, ?_⟩) ?_ ?_
  · intro w'
    go_simp
    exact ⟨EAP.out, EDL.out, ECP.out⟩
  rotate_left
  · simp only [Act.put, List.setIfInBounds_toArray, List.set_cons_zero, List.set_cons_succ, i64_w, i32_w]
    rfl
  refine pure_ (i := 14) (N := some 47) (v := ?_) (a' := ?_) #[true, true, true, true, true, true, true, true, true, true, true, true, true, true, true, false, false] rfl rfl (by kernel_rfl) (fun _ _ _ h => h) (Or.inl ⟨by rfl, ?_⟩) ?_ ?_
  rotate_left
  · intro w'
    go_simp
    with_reducible rfl
  rotate_left
  · simp only [Act.put, List.setIfInBounds_toArray, List.set_cons_zero, List.set_cons_succ, i64_w, i32_w]
    rfl
  refine one_ (i := 15) (N := some 5) #[true, true, true, true, true, true, true, true, true, true, true, true, true, true, true, true, false] rfl rfl (by kernel_rfl) (by decide) (fun K hK => ?_)
  refine box_stepK (cs := #[.int .i64 0, .int .i64 0, .slice none 0 0]) (t := 89) (by rfl) rfl ?hr ?_
  case hr => first | (go_simp; done) | (go_simp; rfl)
  intro g5_ hg w6_ hbox hb
  have hS_ : (fun w' : World => w'.cell? (⟨gw_, 0, none⟩) = some (.slice (some b0_) 1 d0_) ∧ w'.cell? (⟨gw_, 1, none⟩) = some (.slice (some b1_) 1 d1_) ∧ w'.cell? (b0_) = some (.int .u8 x) ∧ w'.cell? (b1_) = some (.int .u8 y)) w6_ := by
    obtain ⟨s0, s1, s2, s3⟩ := hHeld
    exact ⟨(hb.cell (World.block_lt_of_cell? _ _ s0)).trans s0, (hb.cell (World.block_lt_of_cell? _ _ s1)).trans s1, (hb.cell (World.block_lt_of_cell? _ _ s2)).trans s2, (hb.cell (World.block_lt_of_cell? _ _ s3)).trans s3⟩
  replace BK2 := Aside0.mk (blk_below BK2.out hb)
  replace BK3 := Aside0.mk (blk_below BK3.out hb)
  replace PS := Aside0.mk (AR.below PS.out hb)
  replace HB := Aside0.mk (below_step HB.out hb)
  replace ZZ := Aside0.mk (And.intro ZZ.out (show w5_.heap.size ≤ w6_.heap.size from hb.size))
  have BK5 := Aside0.mk hbox
  replace ZZ := Aside0.mk (And.intro ZZ.out (And.intro (show g5_ = w5_.heap.size from hg) (show g5_ < w6_.heap.size from blk_lt hbox)))
  clear hb hbox hg
  refine hK.out _ _ hS_ (fun hHeld2 => ?_)
  clear hK K hHeld hS_
  have hHeld := hHeld2
  clear hHeld2
  refine norm_ (a' := ?_) ?_ ?_
  rotate_left
  · show Act.put _ (some 5) _ = _
    simp only [Act.put, List.setIfInBounds_toArray, List.set_cons_zero, List.set_cons_succ, i64_w, i32_w]
    rfl
  refine last_ (i := 16) (N := none) #[true, true, true, true, true, true, true, true, true, true, true, true, true, true, true, true, true] rfl rfl (by kernel_rfl) (by decide) (fun K hK => ?_)
  refine row_stepK (by rfl) 89 (.tmp 5) (.tmp 47) rfl g5_ #[.int .i64 x, .int .i64 y, .slice A_PS ps.length c_PS] rfl ?hy 89 _ BK5.out ?hi ?ho ?h1 rfl HB.out (show w.heap.size ≤ g5_ from (by have h_ := ZZ.out; omega)) ?_
  case hy => rfl
  case hi => kernel_rfl
  case ho => rfl
  case h1 => first | rfl | (simp [Value.oneCell']; done) | (go_simp; done)
  clear hHeld
  intro w7_ bo hk hb2
  clear BK5
  replace BK2 := Aside0.mk (blk_keptIn BK2.out hk (by have h_ := ZZ.out; omega))
  replace BK3 := Aside0.mk (blk_keptIn BK3.out hk (by have h_ := ZZ.out; omega))
  replace PS := Aside0.mk (AR.kept PS.out hk (by have h_ := ZZ.out; omega))
  replace HB := Aside0.mk hb2
  replace ZZ := Aside0.mk (And.intro ZZ.out (show w6_.heap.size ≤ w7_.heap.size from hk.1))
  have BK5 := Aside0.mk bo
  clear bo hk hb2
  refine hK.out _ _ ?_
  clear hK K
  refine done_ (by kernel_rfl) ?_
  have hz_BK2_0 : w7_.cell? ⟨g2_, 0, none⟩ = some (.int .i64 0) := (blk_cell BK2.out 0).trans rfl
  have hz_BK2_1 : w7_.cell? ⟨g2_, 1, none⟩ = some (.int .i64 0) := (blk_cell BK2.out 1).trans rfl
  have hz_BK2_2 : w7_.cell? ⟨g2_, 2, none⟩ = some (.int .i64 0) := (blk_cell BK2.out 2).trans rfl
  have hz_BK2_3 : w7_.cell? ⟨g2_, 3, none⟩ = some (.slice none 0 0) := (blk_cell BK2.out 3).trans rfl
  have hz_BK3_0 : w7_.cell? ⟨g3_, 0, none⟩ = some (.int .i64 q0) := (blk_cell BK3.out 0).trans rfl
  have hz_BK3_1 : w7_.cell? ⟨g3_, 1, none⟩ = some (.int .i64 q1) := (blk_cell BK3.out 1).trans rfl
  have hz_BK3_2 : w7_.cell? ⟨g3_, 2, none⟩ = some (.slice (some ⟨gw_, 0, none⟩) W.length c_WS) := (blk_cell BK3.out 2).trans rfl
  have hz_BK5_0 : w7_.cell? ⟨g5_, 0, none⟩ = some (.int .i64 x) := (blk_cell BK5.out 0).trans rfl
  have hz_BK5_1 : w7_.cell? ⟨g5_, 1, none⟩ = some (.int .i64 y) := (blk_cell BK5.out 1).trans rfl
  have hz_BK5_2 : w7_.cell? ⟨g5_, 2, none⟩ = some (.slice A_PS ps.length c_PS) := (blk_cell BK5.out 2).trans rfl
  go_wp2_with (first | (go_at_call 121; refine hold_here ?_))
  refine hold_go ?_
  refine (spec_l3Right.calls _ x y A_PS c_PS ps b _ ?s1 ?s2 H_p.out).mono ?_
  case s1 => exact Kd.F_now (AR.foot PS.out)
  case s2 => exact HC_PS.out
  rintro e w8_ ⟨rfl, hb⟩
  replace BK2 := Aside0.mk (blk_below BK2.out hb)
  replace BK3 := Aside0.mk (blk_below BK3.out hb)
  replace PS := Aside0.mk (AR.below PS.out hb)
  replace BK5 := Aside0.mk (blk_below BK5.out hb)
  replace HB := Aside0.mk (below_step HB.out hb)
  clear hz_BK2_0 hz_BK2_1 hz_BK2_2 hz_BK2_3 hz_BK3_0 hz_BK3_1 hz_BK3_2 hz_BK5_0 hz_BK5_1 hz_BK5_2
  replace ZZ := Aside0.mk (And.intro ZZ.out (show w7_.heap.size ≤ w8_.heap.size from hb.size))
  clear hb
  have hz_BK2_0 : w8_.cell? ⟨g2_, 0, none⟩ = some (.int .i64 0) := (blk_cell BK2.out 0).trans rfl
  have hz_BK2_1 : w8_.cell? ⟨g2_, 1, none⟩ = some (.int .i64 0) := (blk_cell BK2.out 1).trans rfl
  have hz_BK2_2 : w8_.cell? ⟨g2_, 2, none⟩ = some (.int .i64 0) := (blk_cell BK2.out 2).trans rfl
  have hz_BK2_3 : w8_.cell? ⟨g2_, 3, none⟩ = some (.slice none 0 0) := (blk_cell BK2.out 3).trans rfl
  have hz_BK3_0 : w8_.cell? ⟨g3_, 0, none⟩ = some (.int .i64 q0) := (blk_cell BK3.out 0).trans rfl
  have hz_BK3_1 : w8_.cell? ⟨g3_, 1, none⟩ = some (.int .i64 q1) := (blk_cell BK3.out 1).trans rfl
  have hz_BK3_2 : w8_.cell? ⟨g3_, 2, none⟩ = some (.slice (some ⟨gw_, 0, none⟩) W.length c_WS) := (blk_cell BK3.out 2).trans rfl
  have hz_BK5_0 : w8_.cell? ⟨g5_, 0, none⟩ = some (.int .i64 x) := (blk_cell BK5.out 0).trans rfl
  have hz_BK5_1 : w8_.cell? ⟨g5_, 1, none⟩ = some (.int .i64 y) := (blk_cell BK5.out 1).trans rfl
  have hz_BK5_2 : w8_.cell? ⟨g5_, 2, none⟩ = some (.slice A_PS ps.length c_PS) := (blk_cell BK5.out 2).trans rfl
  cases b
  · skip
    go_wp2_with (first | ((with_reducible refine gate_store (t := 95) (p := 2) (v := .tmp 51) rfl ?_); refine hold_here ?_))
    refine hold_go ?_
    refine row_store rfl 95 (.tmp 2) (.tmp 51) rfl g2_ #[.int .i64 5, .int .i64 0, .int .i64 0, .slice none 0 0] rfl ?hy 95 _ BK2.out ?hi ?ho ?h1 rfl HB.out (show w.heap.size ≤ g2_ from (by have h_ := ZZ.out; omega)) ?_
    case hy => rfl
    case hi => kernel_rfl
    case ho => rfl
    case h1 => first | rfl | (simp [Value.oneCell']; done) | (go_simp; done)
    intro w9_ bo hk hb2
    clear BK2
    replace BK3 := Aside0.mk (blk_keptIn BK3.out hk (by have h_ := ZZ.out; omega))
    replace PS := Aside0.mk (AR.kept PS.out hk (by have h_ := ZZ.out; omega))
    replace BK5 := Aside0.mk (blk_keptIn BK5.out hk (by have h_ := ZZ.out; omega))
    replace HB := Aside0.mk hb2
    clear hz_BK2_0 hz_BK2_1 hz_BK2_2 hz_BK2_3 hz_BK3_0 hz_BK3_1 hz_BK3_2 hz_BK5_0 hz_BK5_1 hz_BK5_2
    replace ZZ := Aside0.mk (And.intro ZZ.out (show w8_.heap.size ≤ w9_.heap.size from hk.1))
    have BK2 := Aside0.mk bo
    clear bo hk hb2
    have hz_BK3_0 : w9_.cell? ⟨g3_, 0, none⟩ = some (.int .i64 q0) := (blk_cell BK3.out 0).trans rfl
    have hz_BK3_1 : w9_.cell? ⟨g3_, 1, none⟩ = some (.int .i64 q1) := (blk_cell BK3.out 1).trans rfl
    have hz_BK3_2 : w9_.cell? ⟨g3_, 2, none⟩ = some (.slice (some ⟨gw_, 0, none⟩) W.length c_WS) := (blk_cell BK3.out 2).trans rfl
    have hz_BK5_0 : w9_.cell? ⟨g5_, 0, none⟩ = some (.int .i64 x) := (blk_cell BK5.out 0).trans rfl
    have hz_BK5_1 : w9_.cell? ⟨g5_, 1, none⟩ = some (.int .i64 y) := (blk_cell BK5.out 1).trans rfl
    have hz_BK5_2 : w9_.cell? ⟨g5_, 2, none⟩ = some (.slice A_PS ps.length c_PS) := (blk_cell BK5.out 2).trans rfl
    have hz_BK2_0 : w9_.cell? ⟨g2_, 0, none⟩ = some (.int .i64 5) := (blk_cell BK2.out 0).trans rfl
    have hz_BK2_1 : w9_.cell? ⟨g2_, 1, none⟩ = some (.int .i64 0) := (blk_cell BK2.out 1).trans rfl
    have hz_BK2_2 : w9_.cell? ⟨g2_, 2, none⟩ = some (.int .i64 0) := (blk_cell BK2.out 2).trans rfl
    have hz_BK2_3 : w9_.cell? ⟨g2_, 3, none⟩ = some (.slice none 0 0) := (blk_cell BK2.out 3).trans rfl
    go_wp2
    refine bodyPost_ret (results_cell_row rfl _ _ g2_ 95 #[.int .i64 5, .int .i64 0, .int .i64 0, .slice none 0 0] (0, 0) _ rfl BK2.out Try.underlying95 rfl (by kernel_rfl)) rfl ?_
    exact ⟨none, 0, rfl, Nat.le_refl _, AR.nil _ _ _ _ _, HB.out⟩
  · skip
    go_wp2_with (first | ((with_reducible refine gate_store (t := 95) (p := 2) (v := .tmp 53) rfl ?_); refine hold_here ?_))
    refine hold_go ?_
    refine row_store rfl 95 (.tmp 2) (.tmp 53) rfl g2_ #[.int .i64 0, .int .i64 x, .int .i64 y, .slice A_PS ps.length c_PS] rfl ?hy 95 _ BK2.out ?hi ?ho ?h1 rfl HB.out (show w.heap.size ≤ g2_ from (by have h_ := ZZ.out; omega)) ?_
    case hy => rfl
    case hi => kernel_rfl
    case ho => rfl
    case h1 => first | rfl | (simp [Value.oneCell']; done) | (go_simp; done)
    intro w9_ bo hk hb2
    clear BK2
    replace BK3 := Aside0.mk (blk_keptIn BK3.out hk (by have h_ := ZZ.out; omega))
    replace PS := Aside0.mk (AR.kept PS.out hk (by have h_ := ZZ.out; omega))
    replace BK5 := Aside0.mk (blk_keptIn BK5.out hk (by have h_ := ZZ.out; omega))
    replace HB := Aside0.mk hb2
    clear hz_BK2_0 hz_BK2_1 hz_BK2_2 hz_BK2_3 hz_BK3_0 hz_BK3_1 hz_BK3_2 hz_BK5_0 hz_BK5_1 hz_BK5_2
    replace ZZ := Aside0.mk (And.intro ZZ.out (show w8_.heap.size ≤ w9_.heap.size from hk.1))
    have BK2 := Aside0.mk bo
    clear bo hk hb2
    have hz_BK3_0 : w9_.cell? ⟨g3_, 0, none⟩ = some (.int .i64 q0) := (blk_cell BK3.out 0).trans rfl
    have hz_BK3_1 : w9_.cell? ⟨g3_, 1, none⟩ = some (.int .i64 q1) := (blk_cell BK3.out 1).trans rfl
    have hz_BK3_2 : w9_.cell? ⟨g3_, 2, none⟩ = some (.slice (some ⟨gw_, 0, none⟩) W.length c_WS) := (blk_cell BK3.out 2).trans rfl
    have hz_BK5_0 : w9_.cell? ⟨g5_, 0, none⟩ = some (.int .i64 x) := (blk_cell BK5.out 0).trans rfl
    have hz_BK5_1 : w9_.cell? ⟨g5_, 1, none⟩ = some (.int .i64 y) := (blk_cell BK5.out 1).trans rfl
    have hz_BK5_2 : w9_.cell? ⟨g5_, 2, none⟩ = some (.slice A_PS ps.length c_PS) := (blk_cell BK5.out 2).trans rfl
    have hz_BK2_0 : w9_.cell? ⟨g2_, 0, none⟩ = some (.int .i64 0) := (blk_cell BK2.out 0).trans rfl
    have hz_BK2_1 : w9_.cell? ⟨g2_, 1, none⟩ = some (.int .i64 x) := (blk_cell BK2.out 1).trans rfl
    have hz_BK2_2 : w9_.cell? ⟨g2_, 2, none⟩ = some (.int .i64 y) := (blk_cell BK2.out 2).trans rfl
    have hz_BK2_3 : w9_.cell? ⟨g2_, 3, none⟩ = some (.slice A_PS ps.length c_PS) := (blk_cell BK2.out 3).trans rfl
    go_wp2
    refine bodyPost_ret (results_cell_row rfl _ _ g2_ 95 #[.int .i64 0, .int .i64 x, .int .i64 y, .slice A_PS ps.length c_PS] (0, 0) _ rfl BK2.out Try.underlying95 rfl (by kernel_rfl)) rfl ?_
    exact ⟨A_PS, c_PS, rfl, HC_PS.out, AR.grow PS.out (by have h_ := ZZ.out; omega) (by have h_ := ZZ.out; omega), HB.out⟩

end Go.Proofs.Ytmmhghddldhogaa.S

/- Proofs out of bytes: what the program's UnpackProof and the reference's come to, way by way: the same. For all bytes that fit. -/
set_option linter.unusedVariables false
namespace Go.Proofs.Ytmmhghddldhogaa.S
open Go Go.RowKit Go.Proofs.YtmmhghddldhogaaW.PrintWords Go.Proofs.YtmmhghddldhogaaW.PrintLast Go.Proofs.YtmmhghddldhogaaW.PrintMore Go.Proofs.Ytmmhghddldhogaa.Base

theorem one_of {l : List Int} (h : l.length = 1) (hb : Byt l) : ∃ x, l = [x] ∧ 0 ≤ x ∧ x ≤ 255 := by
  match l, h with
  | [x], _ => exact ⟨x, rfl, hb x List.mem_cons_self⟩
/-- What a result holds, in new memory. -/
def UpPost (q0 q1 q2 : Int) (ps : List (List Int)) (W : World) (e : Ending) (w' : World) : Prop :=
  ∃ A c, e = .returned (.agg #[.int .i64 q0, .int .i64 q1, .int .i64 q2, .slice A ps.length c]) ∧ ps.length ≤ c ∧ AR W.heap.size w' W.heap.size w'.heap.size A ps ∧ Below W.heap.size W w'
/-- What the bytes of a proof come to: its place, its count, its path; or the code 5. -/
def UpIs (x : List Int) (q0 q1 q2 : Int) (ps : List (List Int)) : Prop :=
  (q0 = 5 ∧ q1 = 0 ∧ q2 = 0 ∧ ps = []) ∨ (q0 = 0 ∧ (0 ≤ q1 ∧ q1 ≤ 255) ∧ (0 ≤ q2 ∧ q2 ≤ 255) ∧ x = packL ([q1] :: [q2] :: ps) ∧ ∃ L : List Bool, L.length ≤ 15 ∧ (Placed q2 q1 → Ev (fun k => impl_sides.f k q2 q1) L) ∧ (Placed q2 q1 → Ev (fun k => spec_l3Sides.f k q2 q1) (L.map not)) ∧ Right q2 q1 L ps)
theorem UpIs.small {x : List Int} {q0 q1 q2 : Int} {ps : List (List Int)} (h : UpIs x q0 q1 q2 ps) : ps.length ≤ 15 ∧ ∀ l ∈ ps, l.length = 32 := by
  rcases h with ⟨_, _, _, rfl⟩ | ⟨_, _, _, _, L, hL, _, _, hr⟩
  · exact ⟨by simp, fun l hl => by cases hl⟩
  · exact ⟨by have := hr.2.1; omega, hr.2.2⟩
theorem up_ex {x : List Int} (hx : Byt x) : ∃ q0 q1 q2 ps, UpIs x q0 q1 q2 ps ∧
    (∀ (B0 : Option Addr) (d0 : Nat) (W : World), Kd.C (Kd.int .u8) W B0 x.length x → x.length ≤ d0 → Calls Try.prog 80 #[.slice B0 x.length d0] W (UpPost q0 q1 q2 ps W)) ∧
    (∀ (B0 : Option Addr) (d0 : Nat) (W : World), Kd.C (Kd.int .u8) W B0 x.length x → x.length ≤ d0 → Calls Try.prog 79 #[.slice B0 x.length d0] W (UpPost q0 q1 q2 ps W)) := by
  obtain ⟨h1, h2, h3, h4, h5⟩ := unpackV_ok hx
  have hi := impl_UnpackWords_ev hx
  have hs := spec_UnpackWords_ev hx
  generalize unpackV x = r at *
  obtain ⟨c, at_, ws⟩ := r
  simp only at h1 h2 h3 h4 h5
  obtain ⟨ki, hi⟩ := hi.rounds
  obtain ⟨ks, hs⟩ := hs.rounds
  have bad : ∀ {P : Prop}, P → UpIs x 5 0 0 [] := fun _ => .inl ⟨rfl, rfl, rfl, rfl⟩
  by_cases hc : c = 0
  · subst hc
    by_cases hn : ws.length < 2
    · exact ⟨5, 0, 0, [], bad trivial, fun B d W hB hd => impl_UnpackProof_A ki B d x _ _ ws W hB hd hi hn, fun B d W hB hd => spec_UnpackProof_A ks B d x _ _ ws W hB hd hs rfl hn⟩
    have hn : 2 ≤ ws.length := by omega
    by_cases h0 : (ws[0]!).length = 1
    · have hm0 : ws[0]! ∈ ws := by rw [getElem!_pos ws 0 (by omega)]; exact List.getElem_mem _
      have hm1 : ws[1]! ∈ ws := by rw [getElem!_pos ws 1 (by omega)]; exact List.getElem_mem _
      obtain ⟨p, hp, hp0, hp1⟩ := one_of h0 (h1 _ hm0).1
      by_cases h1' : (ws[1]!).length = 1
      · obtain ⟨n, hnn, hn0, hn1⟩ := one_of h1' (h1 _ hm1).1
        obtain ⟨L, hL, si, ss⟩ := sides_any n p
        have hdl : (ws.drop 2).length ≤ 60 := by rw [List.length_drop]; omega
        obtain ⟨kp, hkp⟩ := (impl_isProof_ev n p L si (ws.drop 2)).rounds
        obtain ⟨kq, hkq⟩ := (spec_right_ev n p L ss (ws.drop 2) (by omega)).rounds
        by_cases hr : Right n p L (ws.drop 2)
        · rw [decide_eq_true hr] at hkp hkq
          refine ⟨0, p, n, ws.drop 2, .inr ⟨rfl, ⟨hp0, hp1⟩, ⟨hn0, hn1⟩, ?_, L, hL, si, ss, hr⟩, fun B d W hB hd => impl_UnpackProof_D ki B d x _ _ ws p n (ws.drop 2) _ kp W hB hd hi hn hp hnn ⟨hp0, hp1⟩ ⟨hn0, hn1⟩ rfl hkp, fun B d W hB hd => spec_UnpackProof_D ks B d x _ _ ws p n (ws.drop 2) _ kq W hB hd hs rfl hn hp hnn ⟨hp0, hp1⟩ ⟨hn0, hn1⟩ rfl hkq⟩
          rw [← h3 rfl]
          congr 1
          match ws, hn, hp, hnn with
          | a :: b :: t, _, hp, hnn =>
            have e1 : a = [p] := hp
            have e2 : b = [n] := hnn
            rw [e1, e2]
            rfl
        · rw [decide_eq_false hr] at hkp hkq
          exact ⟨5, 0, 0, [], bad trivial, fun B d W hB hd => impl_UnpackProof_D ki B d x _ _ ws p n (ws.drop 2) _ kp W hB hd hi hn hp hnn ⟨hp0, hp1⟩ ⟨hn0, hn1⟩ rfl hkp, fun B d W hB hd => spec_UnpackProof_D ks B d x _ _ ws p n (ws.drop 2) _ kq W hB hd hs rfl hn hp hnn ⟨hp0, hp1⟩ ⟨hn0, hn1⟩ rfl hkq⟩
      · exact ⟨5, 0, 0, [], bad trivial, fun B d W hB hd => impl_UnpackProof_C ki B d x _ _ ws p W hB hd hi hn hp h1', fun B d W hB hd => spec_UnpackProof_C ks B d x _ _ ws p W hB hd hs rfl hn hp h1'⟩
    · exact ⟨5, 0, 0, [], bad trivial, fun B d W hB hd => impl_UnpackProof_B ki B d x _ _ ws W hB hd hi hn h0, fun B d W hB hd => spec_UnpackProof_B ks B d x _ _ ws W hB hd hs rfl hn h0⟩
  · have he := (h4 hc).1
    subst he
    exact ⟨5, 0, 0, [], bad trivial, fun B d W hB hd => impl_UnpackProof_A ki B d x _ _ [] W hB hd hi (by simp), fun B d W hB hd => spec_UnpackProof_N ks B d x _ _ [] W hB hd hs hc⟩
end Go.Proofs.Ytmmhghddldhogaa.S

/- What the laws' heldByteSS comes to on rows that are marked; what eqWordsResult comes to. For all that fit. -/
set_option linter.unusedVariables false
namespace Go.Proofs.Ytmmhghddldhogaa.S
open Go.RowKit Go.Proofs.YtmmhghddldhogaaW.PrintWords Go.Proofs.YtmmhghddldhogaaW.PrintLast Go.Proofs.YtmmhghddldhogaaW.PrintMore Go.Proofs.Ytmmhghddldhogaa.Base

theorem heldSS_l0 (ls : List (List Int)) (a : Int) (h0 : 0 ≤ a) (hl : ls.length ≤ 1000000000) (h1 : a + (ls.flatten.length : Int) ≤ 4611686018427387904) : ∀ (d i : Nat), i + d = ls.length → Ev (fun k => laws_heldByteSS.l0 k (markAll a ls) (a + (offs ls i : Int)) (i : Int)) (a + (ls.flatten.length : Int)) := by
  intro d
  induction d with
  | zero =>
    intro i h
    obtain rfl : i = ls.length := by omega
    have e1 : offs ls ls.length = ls.flatten.length := by unfold offs; rw [List.take_of_length_le (Nat.le_refl _)]
    rw [e1]
    exact ev_step (fun k => laws_heldByteSS.l0.eq_2 _ _ _ _) (ev_neg (by rw [markAll_length]; omega) (ev_now rfl))
  | succ d ih =>
    intro i h
    have hlt : i < ls.length := by omega
    have ho := offs_step ls i hlt
    have hol := offs_le ls (i + 1)
    have hg := markAll_get ls a i hlt
    have hlm : i < (markAll a ls).length := by rw [markAll_length]; exact hlt
    rw [List.getElem?_eq_getElem hlm] at hg
    refine ev_step (fun k => laws_heldByteSS.l0.eq_2 _ _ _ _) (ev_pos (by rw [markAll_length]; omega) (ev_pos (by omega) ?_))
    rw [rdLL _ i hlm, Option.some.inj hg]
    refine ev_bind (heldByteS_ev ls[i].length (a + (offs ls i : Int)) (by omega) (by omega)) (ev_neg (by omega) ?_)
    rw [w64s (by omega), show a + (offs ls i : Int) + (ls[i].length : Int) = a + (offs ls (i + 1) : Int) by omega]
    exact ih (i + 1) (by omega)
theorem heldSS_ev (ls : List (List Int)) (a : Int) (h0 : 0 ≤ a) (hl : ls.length ≤ 1000000000) (h1 : a + (ls.flatten.length : Int) ≤ 4611686018427387904) : Ev (fun k => laws_heldByteSS.f k (markAll a ls) a) (a + (ls.flatten.length : Int)) := by
  have h := heldSS_l0 ls a h0 hl h1 ls.length 0 (by omega)
  unfold laws_heldByteSS.f
  have e : offs ls 0 = 0 := by simp [offs]
  rw [e] at h
  simpa using h
theorem flat_small {ls : List (List Int)} {n m : Nat} (hl : ls.length ≤ n) (hw : ∀ w ∈ ls, w.length ≤ m) : ls.flatten.length ≤ n * m := by
  have h : ls.flatten.length ≤ ls.length * m := by
    induction ls with
    | nil => simp
    | cons x ls ih =>
      rw [List.flatten_cons, List.length_append, List.length_cons, Nat.succ_mul]
      have h1 := hw x List.mem_cons_self
      have h2 := ih (by simp only [List.length_cons] at hl; omega) (fun w hm => hw w (List.mem_cons_of_mem _ hm))
      omega
  exact Nat.le_trans h (Nat.mul_le_mul_right m hl)
end Go.Proofs.Ytmmhghddldhogaa.S

/- The laws' mark of rows of rows: it writes these rows alone, place by place. No condition beyond those in the statement. -/
set_option linter.unusedVariables false
set_option linter.unusedSimpArgs false
namespace Go.Proofs.Ytmmhghddldhogaa.S
open Go Go.RowKit Go.Proofs.YtmmhghddldhogaaW.PrintWords Go.Proofs.YtmmhghddldhogaaW.PrintLast Go.Proofs.YtmmhghddldhogaaW.PrintMore Go.Proofs.Ytmmhghddldhogaa.Base
attribute [local go_sem] max2_int min2_int max_two min_two max_three min_three max_four min_four

set_option maxHeartbeats 8000000 in
set_option maxRecDepth 100000 in
theorem markSS_calls (ls : List (List Int)) (a : Int) (h0 : 0 ≤ a) (h1 : a + (ls.flatten.length : Int) ≤ 4611686018427387904) (w0 w : World) (lo hi : Nat) (A : Option Addr) (c : Nat) (hB : Below w0.heap.size w0 w) (hA : AR w0.heap.size w lo hi A ls) (hc : ls.length ≤ c) (hl : ls.length ≤ 1000000000) :
    Calls Try.prog 49 #[.slice A ls.length c, .int .i64 a] w fun e w' => e = .returned (.int .i64 (a + (ls.flatten.length : Int))) ∧ AR w0.heap.size w' lo hi A (markAll a ls) ∧ Below w0.heap.size w0 w' ∧ Kept w w' (In lo hi) := by
  rcases hA with ⟨hlen, rfl | ⟨ad, vs, rfl, hg, hr, hin, hap⟩⟩
  · have HB := Aside0.mk hB
    have e0 : a + (([] : List (List Int)).flatten.length : Int) = a := by simp
    rw [e0]
    clear hB
    go_enter Try.func49, Try.ntmps49
    go_wp2
    go_loopg [1, 5] 0 (fun kq v1 v5 w' => v1 = .int .i64 a ∧ v5 = .int .i64 0 ∧ w' = w)
    case atStart => exact ⟨rfl, rfl, rfl⟩
    case round =>
      obtain ⟨rfl, rfl, rfl⟩ := hrel
      go_wp2
      go_ret
      exact ⟨rfl, AR.nil _ _ _ _ _, HB.out, Kept.refl _ _⟩
  · have HI := Aside0.mk hin
    have HP := Aside0.mk hap
    have HG := Aside0.mk hg
    have HN := Aside0.mk hlen
    have HL := Aside0.mk hl
    have H0 := Aside0.mk h0
    have H1 := Aside0.mk h1
    have HB := Aside0.mk hB
    have HR := Aside0.mk (show ∀ i, (h : i < (midSS a ls 0).length) → w.cell? (ad.add i) = some (vs i) ∧ Kd.R (Kd.int .u8) 5 w w0.heap.size (fun k => some k = (vs i).ownBlock) (vs i) (midSS a ls 0)[i] from hr)
    have HK := Aside0.mk (Kept.refl w (In lo hi))
    clear hin hap hg hlen hl h0 h1 hB hr hc
    go_enter Try.func49, Try.ntmps49
    go_wp2
    go_loopg [1, 5] ls.length (fun kq v1 v5 w' => ∃ i : Nat, v5 = .int .i64 (i : Int) ∧ v1 = .int .i64 (a + (offs ls i : Int)) ∧ Aside0 (i + kq = ls.length) ∧ Aside0 (∀ j, (h : j < (midSS a ls i).length) → w'.cell? (ad.add j) = some (vs j) ∧ Kd.R (Kd.int .u8) 5 w' w0.heap.size (fun k => some k = (vs j).ownBlock) (vs j) (midSS a ls i)[j]) ∧ Aside0 (Below w0.heap.size w0 w') ∧ Aside0 (Kept w w' (In lo hi)))
    case atStart => exact ⟨0, rfl, by simp [offs], ⟨by omega⟩, HR, HB, HK⟩
    case round =>
      clear HR HB HK
      obtain ⟨i, rfl, rfl, HJ, HR, HB, HK⟩ := hrel
      cases gk with
      | zero =>
        have e := HJ.out
        obtain rfl : i = ls.length := by omega
        have e1 : offs ls ls.length = ls.flatten.length := by unfold offs; rw [List.take_of_length_le (Nat.le_refl _)]
        rw [e1]
        have HA := Aside0.mk (show AR w0.heap.size wr lo hi (some ad) (markAll a ls) from ⟨by rw [markAll_length]; exact HN.out, .inr ⟨ad, vs, rfl, HG.out, fun j hj => by
          have := HR.out j (by rw [midSS_all]; exact hj)
          simp only [midSS_all] at this
          exact this, fun j k hj hk => HI.out j k (by rw [markAll_length] at hj; exact hj) hk, fun j j2 k hj hj2 hne hk => HP.out j j2 k (by rw [markAll_length] at hj; exact hj) (by rw [markAll_length] at hj2; exact hj2) hne hk⟩⟩)
        have c1_ : decide ((ls.length : Int) < (ls.length : Int)) = false := decide_eq_false (by omega)
        clear e HR
        go_wp2
        go_ret
        exact ⟨rfl, HA.out, HB.out, HK.out⟩
      | succ k1 =>
        have e := HJ.out
        have hlt : i < ls.length := by omega
        have hll := HL.out
        have c1_ : decide ((i : Int) < (ls.length : Int)) = true := decide_eq_true (by omega)
        have p0 : (0 ≤ (i : Int)) = True := eq_true (by omega)
        have p1 : ((i : Int) < (ls.length : Int)) = True := eq_true (by omega)
        have hml := midSS_length a ls i (by omega)
        obtain ⟨hx, hRi⟩ := HR.out i (by omega)
        have hgi := midSS_get a ls i hlt
        rw [List.getElem?_eq_getElem (show i < (midSS a ls i).length by omega)] at hgi
        rw [Option.some.inj hgi] at hRi
        have ho := offs_step ls i hlt
        have hst := midSS_step a ls i hlt
        obtain ⟨row, hrow⟩ : ∃ r, r = ls[i] := ⟨_, rfl⟩
        rw [← hrow] at hRi ho hst
        have hol := offs_le ls (i + 1)
        have H0' := H0.out
        have H1' := H1.out
        obtain ⟨km, hkm⟩ := (markByteS_ev row (a + (offs ls i : Int)) (by omega) (by omega)).rounds
        have HM := Aside0.mk hkm
        have HRi := Aside0.mk hRi
        have HO := Aside0.mk (show a + (offs ls i : Int) + (row.length : Int) = a + (offs ls (i + 1) : Int) by omega)
        have HS := Aside0.mk hst
        have HML := Aside0.mk hml
        have HLT := Aside0.mk hlt
        clear hkm hRi e hll hml hgi ho hol H0' H1' hst hrow hlt
        go_wp2_with (first | (go_at_call 41; refine (laws_markByteS.calls km (fun k => some k = (vs i).ownBlock) (vs i) row _ _ _ w0 _ HB.out HRi.out HM.out).mono ?_; rintro e w1 ⟨rfl, hR1, hb1, hk1⟩; have HR1 := Aside0.mk hR1; have HB1 := Aside0.mk hb1; have HK1 := Aside0.mk hk1; clear hR1 hb1 hk1))
        rw [HO.out]
        have HK2 := Aside0.mk (show Kept w w1 (In lo hi) from HK.out.then_ HK1.out (fun k hk => .inl (HI.out i k HLT.out hk.symm).1))
        have HR2 := Aside0.mk (AR.put (by rw [HML.out]; exact HN.out) HG.out HR.out (fun j k hj hk => HI.out j k (by rw [← HML.out]; exact hj) hk) (fun j j2 k hj hj2 hne hk => HP.out j j2 k (by rw [← HML.out]; exact hj) (by rw [← HML.out]; exact hj2) hne hk) (by rw [HML.out]; exact HLT.out) (Kd.R_tight rfl HR1.out) HK1.out)
        have HR3 := Aside0.mk (show ∀ j, (h : j < (midSS a ls (i + 1)).length) → w1.cell? (ad.add j) = some (vs j) ∧ Kd.R (Kd.int .u8) 5 w1 w0.heap.size (fun k => some k = (vs j).ownBlock) (vs j) (midSS a ls (i + 1))[j] from by
          have h := HR2.out
          simp only [HS.out] at h
          exact h)
        clear hx HR HR1 HR2 HB HK HK1 HRi
        go_roundg k1
        case measure => have := HJ.out; omega
        case rel => exact ⟨i + 1, by first | rfl | (rw [w64s (by have := HJ.out; have := HL.out; omega)]), rfl, ⟨by have := HJ.out; omega⟩, HR3, HB1, HK2⟩

end Go.Proofs.Ytmmhghddldhogaa.S

/- The laws' marks of proofs; the look at a ProofResult that is marked. No condition beyond those in the statements. -/
set_option linter.unusedVariables false
set_option linter.unusedSimpArgs false
namespace Go.Proofs.Ytmmhghddldhogaa.S
open Go Go.RowKit Go.Proofs.YtmmhghddldhogaaW.PrintWords Go.Proofs.YtmmhghddldhogaaW.PrintLast Go.Proofs.YtmmhghddldhogaaW.PrintMore Go.Proofs.Ytmmhghddldhogaa.Base
attribute [local go_sem] max2_int min2_int max_two min_two max_three min_three max_four min_four

theorem markSST_calls (ls : List (List Int)) (a : Int) (h0 : 0 ≤ a) (n : Nat) (hn : ls.flatten.length = n) (h1 : a + (n : Int) ≤ 4611686018427387904) (w0 w : World) (lo hi : Nat) (A : Option Addr) (c : Nat) (hB : Below w0.heap.size w0 w) (hA : AR w0.heap.size w lo hi A ls) (hc : ls.length ≤ c) (hl : ls.length ≤ 1000000000) :
    Calls Try.prog 49 #[.slice A ls.length c, .int .i64 a] w fun e w' => e = .returned (.int .i64 (a + (n : Int))) ∧ AR w0.heap.size w' lo hi A (markAll a ls) ∧ Below w0.heap.size w0 w' ∧ Kept w w' (In lo hi) := by
  subst hn
  exact markSS_calls ls a h0 h1 w0 w lo hi A c hB hA hc hl
set_option maxHeartbeats 80000000 in
set_option maxRecDepth 100000 in
theorem markProof_calls (r1 r2 : Int) (ls : List (List Int)) (a : Int) (h0 : 0 ≤ a) (tt : Nat) (ht : ls.flatten.length = tt) (h1 : a + (tt : Int) ≤ 4611686018427387904) (w0 w : World) (lo hi : Nat) (A : Option Addr) (c : Nat) (hB : Below w0.heap.size w0 w) (hA : AR w0.heap.size w lo hi A ls) (hc : ls.length ≤ c) (hl : ls.length ≤ 1000000000) :
    Calls Try.prog 78 #[.agg #[.int .i64 r1, .int .i64 r2, .slice A ls.length c], .int .i64 a] w fun e w' => e = .returned (.int .i64 (a + (tt : Int))) ∧ AR w0.heap.size w' lo hi A (markAll a ls) ∧ Below w0.heap.size w0 w' ∧ Kept w w' (In lo hi) := by
  have huiProof_ := Try.underlying89
  have HA := Aside0.mk hA
  have HB := Aside0.mk hB
  have HC := Aside0.mk hc
  have HL := Aside0.mk hl
  have H0 := Aside0.mk h0
  have H1 := Aside0.mk h1
  have HT := Aside0.mk ht
  clear hA hB hc hl h0 h1 ht
  go_enter Try.func78, Try.ntmps78
  go_wp2_with (first | ((with_reducible refine gate_dst (N := 2) rfl ?_); refine hold_here ?_))
  refine hold_go ?_
  refine box_event (N := 2) (cs := #[.int .i64 r1, .int .i64 r2, .slice A ls.length c]) (t := 89) ?hgb rfl ?hrb ?_
  case hgb => rfl
  case hrb => first | (go_simp; done) | (go_simp; rfl)
  intro g hg w1 hbox hb
  have HA1 := Aside0.mk (HA.out.below hb)
  have HB1 := Aside0.mk (below_then HB.out HB.out.size hb)
  have HK1 := Aside0.mk (Kept.of_below hb (In lo hi))
  have hz0 : w1.cell? ⟨g, 0, none⟩ = some (.int .i64 r1) := (blk_cell hbox 0).trans rfl
  have hf0 := blk_frozen hbox 0
  have hz1 : w1.cell? ⟨g, 1, none⟩ = some (.int .i64 r2) := (blk_cell hbox 1).trans rfl
  have hf1 := blk_frozen hbox 1
  have hz2 : w1.cell? ⟨g, 2, none⟩ = some (.slice A ls.length c) := (blk_cell hbox 2).trans rfl
  have hf2 := blk_frozen hbox 2
  clear HA HB hb hbox hg
  go_wp2_with (first | (go_at_call 49; refine hold_here ?_))
  refine hold_go ?_
  refine (markSST_calls ls a H0.out tt HT.out H1.out w0 _ lo hi A c HB1.out HA1.out HC.out HL.out).mono ?_
  rintro e w2 ⟨rfl, ha, hb2, hk⟩
  have HA2 := Aside0.mk ha
  have HB2 := Aside0.mk hb2
  have HK2 := Aside0.mk (HK1.out.then_ hk (fun k h => .inl h))
  clear ha hb2 hk HA1 HB1 HK1 hz0 hf0 hz1 hf1 hz2 hf2
  go_wp2
  go_ret
  exact ⟨rfl, HA2.out, HB2.out, HK2.out⟩
set_option maxHeartbeats 80000000 in
set_option maxRecDepth 100000 in
theorem markProofResult_calls (r0 r1 r2 : Int) (ls : List (List Int)) (a : Int) (h0 : 0 ≤ a) (tt : Nat) (ht : ls.flatten.length = tt) (h1 : a + (tt : Int) ≤ 4611686018427387904) (w0 w : World) (lo hi : Nat) (A : Option Addr) (c : Nat) (hB : Below w0.heap.size w0 w) (hA : AR w0.heap.size w lo hi A ls) (hc : ls.length ≤ c) (hl : ls.length ≤ 1000000000) :
    Calls Try.prog 82 #[.agg #[.int .i64 r0, .int .i64 r1, .int .i64 r2, .slice A ls.length c], .int .i64 a] w fun e w' => e = .returned (.int .i64 (a + (tt : Int))) ∧ AR w0.heap.size w' lo hi A (markAll a ls) ∧ Below w0.heap.size w0 w' ∧ Kept w w' (In lo hi) := by
  have huiProofResult_ := Try.underlying95
  have huiProof_ := Try.underlying89
  have HA := Aside0.mk hA
  have HB := Aside0.mk hB
  have HC := Aside0.mk hc
  have HL := Aside0.mk hl
  have H0 := Aside0.mk h0
  have H1 := Aside0.mk h1
  have HT := Aside0.mk ht
  clear hA hB hc hl h0 h1 ht
  go_enter Try.func82, Try.ntmps82
  go_wp2_with (first | ((with_reducible refine gate_dst (N := 2) rfl ?_); refine hold_here ?_))
  refine hold_go ?_
  refine box_event (N := 2) (cs := #[.int .i64 r0, .int .i64 r1, .int .i64 r2, .slice A ls.length c]) (t := 95) ?hgb rfl ?hrb ?_
  case hgb => rfl
  case hrb => first | (go_simp; done) | (go_simp; rfl)
  intro g hg w1 hbox hb
  have HA1 := Aside0.mk (HA.out.below hb)
  have HB1 := Aside0.mk (below_then HB.out HB.out.size hb)
  have HK1 := Aside0.mk (Kept.of_below hb (In lo hi))
  have hz0 : w1.cell? ⟨g, 0, none⟩ = some (.int .i64 r0) := (blk_cell hbox 0).trans rfl
  have hf0 := blk_frozen hbox 0
  have hz1 : w1.cell? ⟨g, 1, none⟩ = some (.int .i64 r1) := (blk_cell hbox 1).trans rfl
  have hf1 := blk_frozen hbox 1
  have hz2 : w1.cell? ⟨g, 2, none⟩ = some (.int .i64 r2) := (blk_cell hbox 2).trans rfl
  have hf2 := blk_frozen hbox 2
  have hz3 : w1.cell? ⟨g, 3, none⟩ = some (.slice A ls.length c) := (blk_cell hbox 3).trans rfl
  have hf3 := blk_frozen hbox 3
  clear HA HB hb hbox hg
  go_wp2_with (first | ((with_reducible refine gate_callee (f := 78) rfl ?_); refine hold_here ?_))
  refine hold_go ?_
  refine goesL_ (some 8) rfl rfl Try.func78 (by kernel_rfl) rfl #[.agg #[.int .i64 r1, .int .i64 r2, .slice A ls.length c], .int .i64 a] rfl (by (try simp only [List.map_toArray, List.map_cons, List.map_nil]); first | done | rfl) ?_
  refine (markProof_calls r1 r2 ls a H0.out tt HT.out H1.out w0 _ lo hi A c HB1.out HA1.out HC.out HL.out).mono ?_
  rintro e w2 ⟨rfl, ha, hb2, hk⟩
  refine ⟨_, rfl, ?_⟩
  have HA2 := Aside0.mk ha
  have HB2 := Aside0.mk hb2
  have HK2 := Aside0.mk (HK1.out.then_ hk (fun k h => .inl h))
  clear ha hb2 hk HA1 HB1 HK1 hz0 hf0 hz1 hf1 hz2 hf2 hz3 hf3
  go_wp2
  go_ret
  exact ⟨rfl, HA2.out, HB2.out, HK2.out⟩
theorem heldProofResult_len (k : Nat) (r0 r1 r2 : Int) (A : Option Addr) (c : Nat) (ms : List (List Int)) (n : Nat) (hn : ms.length = n) (a r : Int) (w : World) (hr : Kd.C (Kd.slice 5 (Kd.int .u8)) w A ms.length ms) (hc : n ≤ c) (h : laws_heldProofResult.f k r0 r1 r2 ms a = some r) :
    Calls Try.prog 83 #[.agg #[.int .i64 r0, .int .i64 r1, .int .i64 r2, .slice A n c], .int .i64 a] w fun e w' => e = .returned (.int .i64 r) ∧ Below w.heap.size w w' := by
  subst hn
  exact laws_heldProofResult.calls k r0 r1 r2 A c ms a r w hr hc h

end Go.Proofs.Ytmmhghddldhogaa.S

/- The walk over the law FnExactUnpackProof: the program and the reference are called, compared, and what they hold is marked. No condition beyond those in the statements. -/
set_option linter.unusedVariables false
set_option linter.unusedSimpArgs false
namespace Go.Proofs.Ytmmhghddldhogaa.S
open Go Go.RowKit Go.Proofs.YtmmhghddldhogaaW.PrintWords Go.Proofs.YtmmhghddldhogaaW.PrintLast Go.Proofs.YtmmhghddldhogaaW.PrintMore Go.Proofs.Ytmmhghddldhogaa.Base
attribute [local go_sem] max2_int min2_int max_two min_two max_three min_three max_four min_four

set_option maxHeartbeats 80000000 in
set_option maxRecDepth 100000 in
theorem law_UnpackProof (A0 : Option Addr) (c0 : Nat) (l0 : List Int) (q0 : Int) (q1 : Int) (q2 : Int) (rs3 : List (List Int)) (ml0 : List Int) (nr : Nat) (mr : List (List Int)) (w : World) (hr0 : Kd.C (Kd.int .u8) w A0 l0.length l0) (hc0 : l0.length ≤ c0) (hlen0 : l0.length ≤ 1048576)
    (ke0 keqr khr km0 kt0 : Nat) (h_t0 : laws_toByteS.f kt0 l0 = some l0) (h_e0 : laws_eqByteS.f ke0 l0 l0 = some true) (h_spec : ∀ (B0 : Option Addr) (d0 : Nat) (W : World), Kd.C (Kd.int .u8) W B0 l0.length l0 → l0.length ≤ d0 → Calls Try.prog 79 #[.slice B0 l0.length d0] W (fun e w' => ∃ R3 e3, e = .returned (.agg #[.int .i64 q0, .int .i64 q1, .int .i64 q2, .slice R3 rs3.length e3]) ∧ rs3.length ≤ e3 ∧ AR W.heap.size w' W.heap.size w'.heap.size R3 rs3 ∧ Below W.heap.size W w')) (h_impl : ∀ (B0 : Option Addr) (d0 : Nat) (W : World), Kd.C (Kd.int .u8) W B0 l0.length l0 → l0.length ≤ d0 → Calls Try.prog 80 #[.slice B0 l0.length d0] W (fun e w' => ∃ R3 e3, e = .returned (.agg #[.int .i64 q0, .int .i64 q1, .int .i64 q2, .slice R3 rs3.length e3]) ∧ rs3.length ≤ e3 ∧ AR W.heap.size w' W.heap.size w'.heap.size R3 rs3 ∧ Below W.heap.size W w')) (h_eqr : laws_eqProofResult.f keqr q0 q1 q2 rs3 q0 q1 q2 rs3 = some true) (h_m0 : laws_markByteS.f km0 l0 (1) = some (1 + (l0.length : Int), ml0)) (h_nr : rs3.flatten.length = nr) (h_pr : (1 : Int) + (nr : Int) ≤ 4611686018427387904) (h_ur : rs3.length ≤ 1000000000) (h_qr : markAll 1 rs3 = mr) (h_lr : mr.length = rs3.length) (h_hr : laws_heldProofResult.f khr q0 q1 q2 mr 1 = some (1 + (nr : Int))) :
    Calls Try.prog 15 #[.slice A0 l0.length c0] w fun e w' => e = .returned (.bool true) ∧ Below w.heap.size w w' := by
  have HR0 := Aside0.mk hr0
  have HC0 := Aside0.mk hc0
  have H_t0 := Aside0.mk h_t0
  have H_e0 := Aside0.mk h_e0
  have H_spec := Aside0.mk h_spec
  have H_impl := Aside0.mk h_impl
  have H_eqr := Aside0.mk h_eqr
  have H_m0 := Aside0.mk h_m0
  have H_nr := Aside0.mk h_nr
  have H_pr := Aside0.mk h_pr
  have H_ur := Aside0.mk h_ur
  have H_qr := Aside0.mk h_qr
  have H_lr := Aside0.mk h_lr
  have H_hr := Aside0.mk h_hr
  have HB := Aside0.mk (Below.refl w.heap.size w)
  have ZZ := Aside0.mk (Nat.le_refl w.heap.size)
  have cg0_ : decide ((l0.length : Int) > 1048576) = false := decide_eq_false (by omega)
  have ch0_ : decide ((1048576 : Int) < (l0.length : Int)) = false := decide_eq_false (by omega)
  have cz_ : decide ((1 + (nr : Int)) < 0) = false := decide_eq_false (by omega)
  have cy_ : decide ((1 + (l0.length : Int)) < 0) = false := decide_eq_false (by omega)
  clear hr0 hc0 hlen0 h_t0 h_e0 h_spec h_impl h_eqr h_m0 h_nr h_pr h_ur h_qr h_lr h_hr
  go_enter Try.func15, Try.ntmps15
  go_wp2_with (first | (go_at_call 37; refine hold_here ?_))
  refine hold_go ?_
  refine (laws_toByteS.calls _ A0 c0 l0 l0 _ ?s1 ?s2 H_t0.out).mono ?_
  case s1 => exact Kd.C_below HR0.out HB.out
  case s2 => exact HC0.out
  rintro e w1_ ⟨v, rfl, ho, hb⟩
  replace HB := Aside0.mk (below_step HB.out hb)
  replace ZZ := Aside0.mk (And.intro ZZ.out (show w.heap.size ≤ w1_.heap.size from hb.size))
  obtain ⟨A_T0, c_T0, ev_, hA_T0⟩ := B_of_R (base := w.heap.size) ho (show w.heap.size ≤ w.heap.size from (by have h_ := ZZ.out; omega))
  subst ev_
  have T0 := Aside0.mk (show Kd.R (Kd.int .u8) 5 w1_ w.heap.size (In w.heap.size w1_.heap.size) (.slice A_T0 l0.length c_T0) l0 from hA_T0)
  clear hA_T0 ho
  clear hb
  go_wp2_with (first | (go_at_call 79; refine hold_here ?_))
  refine hold_go ?_
  refine (H_spec.out A_T0 c_T0 _ ?s1 ?s2).mono ?_
  case s1 => exact (Kd.R_reads' T0.out).2.2
  case s2 => exact (Kd.R_reads' T0.out).2.1
  rintro e w2_ ⟨A_W3, c_W3, rfl, hc_3, ha, hb⟩
  replace T0 := Aside0.mk (Kd.R_below T0.out hb)
  replace HB := Aside0.mk (below_step HB.out hb)
  replace ZZ := Aside0.mk (And.intro ZZ.out (show w1_.heap.size ≤ w2_.heap.size from hb.size))
  have HC_W3 := Aside0.mk hc_3
  have W := Aside0.mk (show AR w.heap.size w2_ w1_.heap.size w2_.heap.size A_W3 rs3 from AR.lower ha (by have h_ := ZZ.out; omega))
  have HC_W := HC_W3
  clear ha hc_3
  clear hb
  go_wp2_with (first | ((with_reducible refine gate_dst (N := 3) rfl ?_); refine hold_here ?_))
  refine hold_go ?_
  refine box_event (N := 3) (cs := #[.int .i64 0, .int .i64 0, .int .i64 0, .slice none 0 0]) (t := 95) ?hgb rfl ?hrb ?_
  case hgb => rfl
  case hrb => first | (go_simp; done) | (go_simp; rfl)
  intro g3_ hg w3_ hbox hb
  replace T0 := Aside0.mk (Kd.R_below T0.out hb)
  replace W := Aside0.mk (AR.below W.out hb)
  replace HB := Aside0.mk (below_step HB.out hb)
  replace ZZ := Aside0.mk (And.intro ZZ.out (show w2_.heap.size ≤ w3_.heap.size from hb.size))
  have BK3 := Aside0.mk hbox
  replace ZZ := Aside0.mk (And.intro ZZ.out (And.intro (show g3_ = w2_.heap.size from hg) (show g3_ < w3_.heap.size from blk_lt hbox)))
  clear hb hbox hg
  go_wp2_with (first | ((with_reducible refine gate_store (t := 95) (p := 3) (v := .tmp 15) rfl ?_); refine hold_here ?_))
  refine hold_go ?_
  refine row_store rfl 95 (.tmp 3) (.tmp 15) rfl g3_ #[.int .i64 q0, .int .i64 q1, .int .i64 q2, .slice A_W3 rs3.length c_W3] rfl ?hy 95 _ BK3.out ?hi ?ho ?h1 rfl HB.out (show w.heap.size ≤ g3_ from (by have h_ := ZZ.out; omega)) ?_
  case hy => rfl
  case hi => kernel_rfl
  case ho => rfl
  case h1 => first | rfl | (simp [Value.oneCell']; done) | (go_simp; done)
  intro w4_ bo hk hb2
  clear BK3
  replace T0 := Aside0.mk (B_kept T0.out hk (by have h_ := ZZ.out; omega))
  replace W := Aside0.mk (AR.kept W.out hk (by have h_ := ZZ.out; omega))
  replace HB := Aside0.mk hb2
  replace ZZ := Aside0.mk (And.intro ZZ.out (show w3_.heap.size ≤ w4_.heap.size from hk.1))
  have BK3 := Aside0.mk bo
  clear bo hk hb2
  clear T0
  go_wp2_with (first | (go_at_call 37; refine hold_here ?_))
  refine hold_go ?_
  refine (laws_toByteS.calls _ A0 c0 l0 l0 _ ?s1 ?s2 H_t0.out).mono ?_
  case s1 => exact Kd.C_below HR0.out HB.out
  case s2 => exact HC0.out
  rintro e w5_ ⟨v, rfl, ho, hb⟩
  replace W := Aside0.mk (AR.below W.out hb)
  replace BK3 := Aside0.mk (blk_below BK3.out hb)
  replace HB := Aside0.mk (below_step HB.out hb)
  replace ZZ := Aside0.mk (And.intro ZZ.out (show w4_.heap.size ≤ w5_.heap.size from hb.size))
  obtain ⟨A_X0_, c_X0_, ev_, hA_X0_⟩ := B_of_R (base := w.heap.size) ho (show w.heap.size ≤ w4_.heap.size from (by have h_ := ZZ.out; omega))
  subst ev_
  have X0_ := Aside0.mk (show Kd.R (Kd.int .u8) 5 w5_ w.heap.size (In w4_.heap.size w5_.heap.size) (.slice A_X0_ l0.length c_X0_) l0 from hA_X0_)
  clear hA_X0_ ho
  clear hb
  have Y0 := X0_
  clear X0_
  obtain ⟨A_Y0, eA_⟩ : ∃ A, A = A_X0_ := ⟨_, rfl⟩
  subst eA_
  obtain ⟨c_Y0, eC_⟩ : ∃ c, c = c_X0_ := ⟨_, rfl⟩
  subst eC_
  go_wp2_with (first | (go_at_call 80; refine hold_here ?_))
  refine hold_go ?_
  refine (H_impl.out A_Y0 c_Y0 _ ?s1 ?s2).mono ?_
  case s1 => exact (Kd.R_reads' Y0.out).2.2
  case s2 => exact (Kd.R_reads' Y0.out).2.1
  rintro e w6_ ⟨A_G3, c_G3, rfl, hc_3, ha, hb⟩
  replace W := Aside0.mk (AR.below W.out hb)
  replace BK3 := Aside0.mk (blk_below BK3.out hb)
  replace Y0 := Aside0.mk (Kd.R_below Y0.out hb)
  replace HB := Aside0.mk (below_step HB.out hb)
  replace ZZ := Aside0.mk (And.intro ZZ.out (show w5_.heap.size ≤ w6_.heap.size from hb.size))
  have HC_G3 := Aside0.mk hc_3
  have G := Aside0.mk (show AR w.heap.size w6_ w5_.heap.size w6_.heap.size A_G3 rs3 from AR.lower ha (by have h_ := ZZ.out; omega))
  have HC_G := HC_G3
  clear ha hc_3
  clear hb
  go_wp2_with (first | ((with_reducible refine gate_dst (N := 5) rfl ?_); refine hold_here ?_))
  refine hold_go ?_
  refine box_event (N := 5) (cs := #[.int .i64 0, .int .i64 0, .int .i64 0, .slice none 0 0]) (t := 95) ?hgb rfl ?hrb ?_
  case hgb => rfl
  case hrb => first | (go_simp; done) | (go_simp; rfl)
  intro g5_ hg w7_ hbox hb
  replace W := Aside0.mk (AR.below W.out hb)
  replace BK3 := Aside0.mk (blk_below BK3.out hb)
  replace Y0 := Aside0.mk (Kd.R_below Y0.out hb)
  replace G := Aside0.mk (AR.below G.out hb)
  replace HB := Aside0.mk (below_step HB.out hb)
  replace ZZ := Aside0.mk (And.intro ZZ.out (show w6_.heap.size ≤ w7_.heap.size from hb.size))
  have BK5 := Aside0.mk hbox
  replace ZZ := Aside0.mk (And.intro ZZ.out (And.intro (show g5_ = w6_.heap.size from hg) (show g5_ < w7_.heap.size from blk_lt hbox)))
  clear hb hbox hg
  go_wp2_with (first | ((with_reducible refine gate_store (t := 95) (p := 5) (v := .tmp 19) rfl ?_); refine hold_here ?_))
  refine hold_go ?_
  refine row_store rfl 95 (.tmp 5) (.tmp 19) rfl g5_ #[.int .i64 q0, .int .i64 q1, .int .i64 q2, .slice A_G3 rs3.length c_G3] rfl ?hy 95 _ BK5.out ?hi ?ho ?h1 rfl HB.out (show w.heap.size ≤ g5_ from (by have h_ := ZZ.out; omega)) ?_
  case hy => rfl
  case hi => kernel_rfl
  case ho => rfl
  case h1 => first | rfl | (simp [Value.oneCell']; done) | (go_simp; done)
  intro w8_ bo hk hb2
  clear BK5
  replace W := Aside0.mk (AR.kept W.out hk (by have h_ := ZZ.out; omega))
  replace BK3 := Aside0.mk (blk_keptIn BK3.out hk (by have h_ := ZZ.out; omega))
  replace Y0 := Aside0.mk (B_kept Y0.out hk (by have h_ := ZZ.out; omega))
  replace G := Aside0.mk (AR.kept G.out hk (by have h_ := ZZ.out; omega))
  replace HB := Aside0.mk hb2
  replace ZZ := Aside0.mk (And.intro ZZ.out (show w7_.heap.size ≤ w8_.heap.size from hk.1))
  have BK5 := Aside0.mk bo
  clear bo hk hb2
  have hz_BK5_0 : w8_.cell? ⟨g5_, 0, none⟩ = some (.int .i64 q0) := (blk_cell BK5.out 0).trans rfl
  have hz_BK5_1 : w8_.cell? ⟨g5_, 1, none⟩ = some (.int .i64 q1) := (blk_cell BK5.out 1).trans rfl
  have hz_BK5_2 : w8_.cell? ⟨g5_, 2, none⟩ = some (.int .i64 q2) := (blk_cell BK5.out 2).trans rfl
  have hz_BK5_3 : w8_.cell? ⟨g5_, 3, none⟩ = some (.slice A_G3 rs3.length c_G3) := (blk_cell BK5.out 3).trans rfl
  have hz_BK3_0 : w8_.cell? ⟨g3_, 0, none⟩ = some (.int .i64 q0) := (blk_cell BK3.out 0).trans rfl
  have hz_BK3_1 : w8_.cell? ⟨g3_, 1, none⟩ = some (.int .i64 q1) := (blk_cell BK3.out 1).trans rfl
  have hz_BK3_2 : w8_.cell? ⟨g3_, 2, none⟩ = some (.int .i64 q2) := (blk_cell BK3.out 2).trans rfl
  have hz_BK3_3 : w8_.cell? ⟨g3_, 3, none⟩ = some (.slice A_W3 rs3.length c_W3) := (blk_cell BK3.out 3).trans rfl
  go_wp2_with (first | (go_at_call 81; refine hold_here ?_))
  refine hold_go ?_
  refine (laws_eqProofResult.calls _ q0 q1 q2 A_G3 c_G3 rs3 q0 q1 q2 A_W3 c_W3 rs3 true _ ?s1 ?s2 ?s3 ?s4 H_eqr.out).mono ?_
  case s1 => exact Kd.F_now (AR.foot G.out)
  case s2 => exact HC_G.out
  case s3 => exact Kd.F_now (AR.foot W.out)
  case s4 => exact HC_W.out
  rintro e w9_ ⟨rfl, hb⟩
  replace W := Aside0.mk (AR.below W.out hb)
  replace BK3 := Aside0.mk (blk_below BK3.out hb)
  replace Y0 := Aside0.mk (Kd.R_below Y0.out hb)
  replace G := Aside0.mk (AR.below G.out hb)
  replace BK5 := Aside0.mk (blk_below BK5.out hb)
  replace HB := Aside0.mk (below_step HB.out hb)
  clear hz_BK5_0 hz_BK5_1 hz_BK5_2 hz_BK5_3 hz_BK3_0 hz_BK3_1 hz_BK3_2 hz_BK3_3
  replace ZZ := Aside0.mk (And.intro ZZ.out (show w8_.heap.size ≤ w9_.heap.size from hb.size))
  clear hb
  go_wp2_with (first | (go_at_call 37; refine hold_here ?_))
  refine hold_go ?_
  refine (laws_toByteS.calls _ A0 c0 l0 l0 _ ?s1 ?s2 H_t0.out).mono ?_
  case s1 => exact Kd.C_below HR0.out HB.out
  case s2 => exact HC0.out
  rintro e w10_ ⟨v, rfl, ho, hb⟩
  replace W := Aside0.mk (AR.below W.out hb)
  replace BK3 := Aside0.mk (blk_below BK3.out hb)
  replace Y0 := Aside0.mk (Kd.R_below Y0.out hb)
  replace G := Aside0.mk (AR.below G.out hb)
  replace BK5 := Aside0.mk (blk_below BK5.out hb)
  replace HB := Aside0.mk (below_step HB.out hb)
  replace ZZ := Aside0.mk (And.intro ZZ.out (show w9_.heap.size ≤ w10_.heap.size from hb.size))
  obtain ⟨A_T0, c_T0, ev_, hA_T0⟩ := B_of_R (base := w.heap.size) ho (show w.heap.size ≤ w9_.heap.size from (by have h_ := ZZ.out; omega))
  subst ev_
  have T0 := Aside0.mk (show Kd.R (Kd.int .u8) 5 w10_ w.heap.size (In w9_.heap.size w10_.heap.size) (.slice A_T0 l0.length c_T0) l0 from hA_T0)
  clear hA_T0 ho
  clear hb
  go_wp2_with (first | (go_at_call 40; refine hold_here ?_))
  refine hold_go ?_
  refine (laws_eqByteS.calls _ A_Y0 c_Y0 l0 A_T0 c_T0 l0 true _ ?s1 ?s2 ?s3 ?s4 H_e0.out).mono ?_
  case s1 => exact (Kd.R_reads' Y0.out).2.2
  case s2 => exact (Kd.R_reads' Y0.out).2.1
  case s3 => exact (Kd.R_reads' T0.out).2.2
  case s4 => exact (Kd.R_reads' T0.out).2.1
  rintro e w11_ ⟨rfl, hd⟩
  have hb := hd.below
  clear hd
  replace W := Aside0.mk (AR.below W.out hb)
  replace BK3 := Aside0.mk (blk_below BK3.out hb)
  replace Y0 := Aside0.mk (Kd.R_below Y0.out hb)
  replace G := Aside0.mk (AR.below G.out hb)
  replace BK5 := Aside0.mk (blk_below BK5.out hb)
  replace T0 := Aside0.mk (Kd.R_below T0.out hb)
  replace HB := Aside0.mk (below_step HB.out hb)
  replace ZZ := Aside0.mk (And.intro ZZ.out (show w10_.heap.size ≤ w11_.heap.size from hb.size))
  clear hb
  clear T0
  go_wp2_with (first | (go_at_call 41; refine hold_here ?_))
  refine hold_go ?_
  refine (laws_markByteS.calls _ (In w4_.heap.size w5_.heap.size) (.slice A_Y0 l0.length c_Y0) l0 (1) _ _ w _ ?s1 ?s2 H_m0.out).mono ?_
  case s1 => exact HB.out
  case s2 => exact Y0.out
  rintro e w12_ ⟨rfl, hR, hb2, hk⟩
  clear Y0
  replace W := Aside0.mk (AR.kept W.out hk (by have h_ := ZZ.out; omega))
  replace BK3 := Aside0.mk (blk_keptIn BK3.out hk (by have h_ := ZZ.out; omega))
  replace G := Aside0.mk (AR.kept G.out hk (by have h_ := ZZ.out; omega))
  replace BK5 := Aside0.mk (blk_keptIn BK5.out hk (by have h_ := ZZ.out; omega))
  replace HB := Aside0.mk hb2
  replace ZZ := Aside0.mk (And.intro ZZ.out (show w11_.heap.size ≤ w12_.heap.size from hk.1))
  clear hR
  clear hk hb2
  have hz_BK5_0 : w12_.cell? ⟨g5_, 0, none⟩ = some (.int .i64 q0) := (blk_cell BK5.out 0).trans rfl
  have hz_BK5_1 : w12_.cell? ⟨g5_, 1, none⟩ = some (.int .i64 q1) := (blk_cell BK5.out 1).trans rfl
  have hz_BK5_2 : w12_.cell? ⟨g5_, 2, none⟩ = some (.int .i64 q2) := (blk_cell BK5.out 2).trans rfl
  have hz_BK5_3 : w12_.cell? ⟨g5_, 3, none⟩ = some (.slice A_G3 rs3.length c_G3) := (blk_cell BK5.out 3).trans rfl
  have hz_BK3_0 : w12_.cell? ⟨g3_, 0, none⟩ = some (.int .i64 q0) := (blk_cell BK3.out 0).trans rfl
  have hz_BK3_1 : w12_.cell? ⟨g3_, 1, none⟩ = some (.int .i64 q1) := (blk_cell BK3.out 1).trans rfl
  have hz_BK3_2 : w12_.cell? ⟨g3_, 2, none⟩ = some (.int .i64 q2) := (blk_cell BK3.out 2).trans rfl
  have hz_BK3_3 : w12_.cell? ⟨g3_, 3, none⟩ = some (.slice A_W3 rs3.length c_W3) := (blk_cell BK3.out 3).trans rfl
  go_wp2_with (first | (go_at_call 81; refine hold_here ?_))
  refine hold_go ?_
  refine (laws_eqProofResult.calls _ q0 q1 q2 A_G3 c_G3 rs3 q0 q1 q2 A_W3 c_W3 rs3 true _ ?s1 ?s2 ?s3 ?s4 H_eqr.out).mono ?_
  case s1 => exact Kd.F_now (AR.foot G.out)
  case s2 => exact HC_G.out
  case s3 => exact Kd.F_now (AR.foot W.out)
  case s4 => exact HC_W.out
  rintro e w13_ ⟨rfl, hb⟩
  replace W := Aside0.mk (AR.below W.out hb)
  replace BK3 := Aside0.mk (blk_below BK3.out hb)
  replace G := Aside0.mk (AR.below G.out hb)
  replace BK5 := Aside0.mk (blk_below BK5.out hb)
  replace HB := Aside0.mk (below_step HB.out hb)
  clear hz_BK5_0 hz_BK5_1 hz_BK5_2 hz_BK5_3 hz_BK3_0 hz_BK3_1 hz_BK3_2 hz_BK3_3
  replace ZZ := Aside0.mk (And.intro ZZ.out (show w12_.heap.size ≤ w13_.heap.size from hb.size))
  clear hb
  have hz_BK5_0 : w13_.cell? ⟨g5_, 0, none⟩ = some (.int .i64 q0) := (blk_cell BK5.out 0).trans rfl
  have hz_BK5_1 : w13_.cell? ⟨g5_, 1, none⟩ = some (.int .i64 q1) := (blk_cell BK5.out 1).trans rfl
  have hz_BK5_2 : w13_.cell? ⟨g5_, 2, none⟩ = some (.int .i64 q2) := (blk_cell BK5.out 2).trans rfl
  have hz_BK5_3 : w13_.cell? ⟨g5_, 3, none⟩ = some (.slice A_G3 rs3.length c_G3) := (blk_cell BK5.out 3).trans rfl
  go_wp2_with (first | (go_at_call 82; refine hold_here ?_))
  refine hold_go ?_
  refine (markProofResult_calls q0 q1 q2 rs3 1 (by decide) nr H_nr.out H_pr.out w _ w5_.heap.size w6_.heap.size A_G3 c_G3 ?s1 ?s2 ?s3 H_ur.out).mono ?_
  case s1 => exact HB.out
  case s2 => exact G.out
  case s3 => exact HC_G3.out
  rintro e w14_ ⟨rfl, ha, hb2, hk⟩
  clear G
  replace W := Aside0.mk (AR.kept W.out hk (by have h_ := ZZ.out; omega))
  replace BK3 := Aside0.mk (blk_keptIn BK3.out hk (by have h_ := ZZ.out; omega))
  replace BK5 := Aside0.mk (blk_keptIn BK5.out hk (by have h_ := ZZ.out; omega))
  replace HB := Aside0.mk hb2
  clear hz_BK5_0 hz_BK5_1 hz_BK5_2 hz_BK5_3
  replace ZZ := Aside0.mk (And.intro ZZ.out (show w13_.heap.size ≤ w14_.heap.size from hk.1))
  rw [H_qr.out] at ha
  have G := Aside0.mk ha
  clear ha
  clear hk hb2
  have hz_BK5_0 : w14_.cell? ⟨g5_, 0, none⟩ = some (.int .i64 q0) := (blk_cell BK5.out 0).trans rfl
  have hz_BK5_1 : w14_.cell? ⟨g5_, 1, none⟩ = some (.int .i64 q1) := (blk_cell BK5.out 1).trans rfl
  have hz_BK5_2 : w14_.cell? ⟨g5_, 2, none⟩ = some (.int .i64 q2) := (blk_cell BK5.out 2).trans rfl
  have hz_BK5_3 : w14_.cell? ⟨g5_, 3, none⟩ = some (.slice A_G3 rs3.length c_G3) := (blk_cell BK5.out 3).trans rfl
  go_wp2_with (first | (go_at_call 83; refine hold_here ?_))
  refine hold_go ?_
  refine (heldProofResult_len _ q0 q1 q2 A_G3 c_G3 mr rs3.length H_lr.out 1 _ _ ?s1 ?s2 H_hr.out).mono ?_
  case s1 => exact Kd.F_now (AR.foot G.out)
  case s2 => exact HC_G.out
  rintro e w15_ ⟨rfl, hb⟩
  replace W := Aside0.mk (AR.below W.out hb)
  replace BK3 := Aside0.mk (blk_below BK3.out hb)
  replace BK5 := Aside0.mk (blk_below BK5.out hb)
  replace G := Aside0.mk (AR.below G.out hb)
  replace HB := Aside0.mk (below_step HB.out hb)
  clear hz_BK5_0 hz_BK5_1 hz_BK5_2 hz_BK5_3
  replace ZZ := Aside0.mk (And.intro ZZ.out (show w14_.heap.size ≤ w15_.heap.size from hb.size))
  clear hb
  go_wp2_with (first | (go_at_call 37; refine hold_here ?_))
  refine hold_go ?_
  refine (laws_toByteS.calls _ A0 c0 l0 l0 _ ?s1 ?s2 H_t0.out).mono ?_
  case s1 => exact Kd.C_below HR0.out HB.out
  case s2 => exact HC0.out
  rintro e w16_ ⟨v, rfl, ho, hb⟩
  replace W := Aside0.mk (AR.below W.out hb)
  replace BK3 := Aside0.mk (blk_below BK3.out hb)
  replace BK5 := Aside0.mk (blk_below BK5.out hb)
  replace G := Aside0.mk (AR.below G.out hb)
  replace HB := Aside0.mk (below_step HB.out hb)
  replace ZZ := Aside0.mk (And.intro ZZ.out (show w15_.heap.size ≤ w16_.heap.size from hb.size))
  obtain ⟨A_T0, c_T0, ev_, hA_T0⟩ := B_of_R (base := w.heap.size) ho (show w.heap.size ≤ w15_.heap.size from (by have h_ := ZZ.out; omega))
  subst ev_
  have T0 := Aside0.mk (show Kd.R (Kd.int .u8) 5 w16_ w.heap.size (In w15_.heap.size w16_.heap.size) (.slice A_T0 l0.length c_T0) l0 from hA_T0)
  clear hA_T0 ho
  clear hb
  go_wp2_with (first | (go_at_call 80; refine hold_here ?_))
  refine hold_go ?_
  refine (H_impl.out A_T0 c_T0 _ ?s1 ?s2).mono ?_
  case s1 => exact (Kd.R_reads' T0.out).2.2
  case s2 => exact (Kd.R_reads' T0.out).2.1
  rintro e w17_ ⟨A_H3, c_H3, rfl, hc_3, ha, hb⟩
  replace W := Aside0.mk (AR.below W.out hb)
  replace BK3 := Aside0.mk (blk_below BK3.out hb)
  replace BK5 := Aside0.mk (blk_below BK5.out hb)
  replace G := Aside0.mk (AR.below G.out hb)
  replace T0 := Aside0.mk (Kd.R_below T0.out hb)
  replace HB := Aside0.mk (below_step HB.out hb)
  replace ZZ := Aside0.mk (And.intro ZZ.out (show w16_.heap.size ≤ w17_.heap.size from hb.size))
  have HC_H3 := Aside0.mk hc_3
  have H := Aside0.mk (show AR w.heap.size w17_ w16_.heap.size w17_.heap.size A_H3 rs3 from AR.lower ha (by have h_ := ZZ.out; omega))
  have HC_H := HC_H3
  clear ha hc_3
  clear hb
  go_wp2_with (first | ((with_reducible refine gate_dst (N := 9) rfl ?_); refine hold_here ?_))
  refine hold_go ?_
  refine box_event (N := 9) (cs := #[.int .i64 0, .int .i64 0, .int .i64 0, .slice none 0 0]) (t := 95) ?hgb rfl ?hrb ?_
  case hgb => rfl
  case hrb => first | (go_simp; done) | (go_simp; rfl)
  intro g9_ hg w18_ hbox hb
  replace W := Aside0.mk (AR.below W.out hb)
  replace BK3 := Aside0.mk (blk_below BK3.out hb)
  replace BK5 := Aside0.mk (blk_below BK5.out hb)
  replace G := Aside0.mk (AR.below G.out hb)
  replace T0 := Aside0.mk (Kd.R_below T0.out hb)
  replace H := Aside0.mk (AR.below H.out hb)
  replace HB := Aside0.mk (below_step HB.out hb)
  replace ZZ := Aside0.mk (And.intro ZZ.out (show w17_.heap.size ≤ w18_.heap.size from hb.size))
  have BK9 := Aside0.mk hbox
  replace ZZ := Aside0.mk (And.intro ZZ.out (And.intro (show g9_ = w17_.heap.size from hg) (show g9_ < w18_.heap.size from blk_lt hbox)))
  clear hb hbox hg
  go_wp2_with (first | ((with_reducible refine gate_store (t := 95) (p := 9) (v := .tmp 53) rfl ?_); refine hold_here ?_))
  refine hold_go ?_
  refine row_store rfl 95 (.tmp 9) (.tmp 53) rfl g9_ #[.int .i64 q0, .int .i64 q1, .int .i64 q2, .slice A_H3 rs3.length c_H3] rfl ?hy 95 _ BK9.out ?hi ?ho ?h1 rfl HB.out (show w.heap.size ≤ g9_ from (by have h_ := ZZ.out; omega)) ?_
  case hy => rfl
  case hi => kernel_rfl
  case ho => rfl
  case h1 => first | rfl | (simp [Value.oneCell']; done) | (go_simp; done)
  intro w19_ bo hk hb2
  clear BK9
  replace W := Aside0.mk (AR.kept W.out hk (by have h_ := ZZ.out; omega))
  replace BK3 := Aside0.mk (blk_keptIn BK3.out hk (by have h_ := ZZ.out; omega))
  replace BK5 := Aside0.mk (blk_keptIn BK5.out hk (by have h_ := ZZ.out; omega))
  replace G := Aside0.mk (AR.kept G.out hk (by have h_ := ZZ.out; omega))
  replace T0 := Aside0.mk (B_kept T0.out hk (by have h_ := ZZ.out; omega))
  replace H := Aside0.mk (AR.kept H.out hk (by have h_ := ZZ.out; omega))
  replace HB := Aside0.mk hb2
  replace ZZ := Aside0.mk (And.intro ZZ.out (show w18_.heap.size ≤ w19_.heap.size from hk.1))
  have BK9 := Aside0.mk bo
  clear bo hk hb2
  have hz_BK9_0 : w19_.cell? ⟨g9_, 0, none⟩ = some (.int .i64 q0) := (blk_cell BK9.out 0).trans rfl
  have hz_BK9_1 : w19_.cell? ⟨g9_, 1, none⟩ = some (.int .i64 q1) := (blk_cell BK9.out 1).trans rfl
  have hz_BK9_2 : w19_.cell? ⟨g9_, 2, none⟩ = some (.int .i64 q2) := (blk_cell BK9.out 2).trans rfl
  have hz_BK9_3 : w19_.cell? ⟨g9_, 3, none⟩ = some (.slice A_H3 rs3.length c_H3) := (blk_cell BK9.out 3).trans rfl
  have hz_BK3_0 : w19_.cell? ⟨g3_, 0, none⟩ = some (.int .i64 q0) := (blk_cell BK3.out 0).trans rfl
  have hz_BK3_1 : w19_.cell? ⟨g3_, 1, none⟩ = some (.int .i64 q1) := (blk_cell BK3.out 1).trans rfl
  have hz_BK3_2 : w19_.cell? ⟨g3_, 2, none⟩ = some (.int .i64 q2) := (blk_cell BK3.out 2).trans rfl
  have hz_BK3_3 : w19_.cell? ⟨g3_, 3, none⟩ = some (.slice A_W3 rs3.length c_W3) := (blk_cell BK3.out 3).trans rfl
  go_wp2_with (first | (go_at_call 81; refine hold_here ?_))
  refine hold_go ?_
  refine (laws_eqProofResult.calls _ q0 q1 q2 A_H3 c_H3 rs3 q0 q1 q2 A_W3 c_W3 rs3 true _ ?s1 ?s2 ?s3 ?s4 H_eqr.out).mono ?_
  case s1 => exact Kd.F_now (AR.foot H.out)
  case s2 => exact HC_H.out
  case s3 => exact Kd.F_now (AR.foot W.out)
  case s4 => exact HC_W.out
  rintro e w20_ ⟨rfl, hb⟩
  replace W := Aside0.mk (AR.below W.out hb)
  replace BK3 := Aside0.mk (blk_below BK3.out hb)
  replace BK5 := Aside0.mk (blk_below BK5.out hb)
  replace G := Aside0.mk (AR.below G.out hb)
  replace T0 := Aside0.mk (Kd.R_below T0.out hb)
  replace H := Aside0.mk (AR.below H.out hb)
  replace BK9 := Aside0.mk (blk_below BK9.out hb)
  replace HB := Aside0.mk (below_step HB.out hb)
  clear hz_BK9_0 hz_BK9_1 hz_BK9_2 hz_BK9_3 hz_BK3_0 hz_BK3_1 hz_BK3_2 hz_BK3_3
  replace ZZ := Aside0.mk (And.intro ZZ.out (show w19_.heap.size ≤ w20_.heap.size from hb.size))
  clear hb
  have hz_BK5_0 : w20_.cell? ⟨g5_, 0, none⟩ = some (.int .i64 q0) := (blk_cell BK5.out 0).trans rfl
  have hz_BK5_1 : w20_.cell? ⟨g5_, 1, none⟩ = some (.int .i64 q1) := (blk_cell BK5.out 1).trans rfl
  have hz_BK5_2 : w20_.cell? ⟨g5_, 2, none⟩ = some (.int .i64 q2) := (blk_cell BK5.out 2).trans rfl
  have hz_BK5_3 : w20_.cell? ⟨g5_, 3, none⟩ = some (.slice A_G3 rs3.length c_G3) := (blk_cell BK5.out 3).trans rfl
  go_wp2_with (first | (go_at_call 83; refine hold_here ?_))
  refine hold_go ?_
  refine (heldProofResult_len _ q0 q1 q2 A_G3 c_G3 mr rs3.length H_lr.out 1 _ _ ?s1 ?s2 H_hr.out).mono ?_
  case s1 => exact Kd.F_now (AR.foot G.out)
  case s2 => exact HC_G.out
  rintro e w21_ ⟨rfl, hb⟩
  replace W := Aside0.mk (AR.below W.out hb)
  replace BK3 := Aside0.mk (blk_below BK3.out hb)
  replace BK5 := Aside0.mk (blk_below BK5.out hb)
  replace G := Aside0.mk (AR.below G.out hb)
  replace T0 := Aside0.mk (Kd.R_below T0.out hb)
  replace H := Aside0.mk (AR.below H.out hb)
  replace BK9 := Aside0.mk (blk_below BK9.out hb)
  replace HB := Aside0.mk (below_step HB.out hb)
  clear hz_BK5_0 hz_BK5_1 hz_BK5_2 hz_BK5_3
  replace ZZ := Aside0.mk (And.intro ZZ.out (show w20_.heap.size ≤ w21_.heap.size from hb.size))
  clear hb
  go_wp2
  go_ret
  exact ⟨rfl, HB.out⟩
theorem law_UnpackProof_big0 (A0 : Option Addr) (c0 : Nat) (l0 : List Int) (w : World)  (hlen0 : ¬ l0.length ≤ 1048576) :
    Calls Try.prog 15 #[.slice A0 l0.length c0] w fun e w' => e = .returned (.bool true) ∧ Below w.heap.size w w' := by
  have cg0_ : decide ((l0.length : Int) > 1048576) = true := decide_eq_true (by omega)
  have ch0_ : decide ((1048576 : Int) < (l0.length : Int)) = true := decide_eq_true (by omega)
  clear hlen0
  go_enter Try.func15, Try.ntmps15
  go_wp2
  go_ret
  exact ⟨rfl, Below.refl _ _⟩

end Go.Proofs.Ytmmhghddldhogaa.S

/- DIRECT: the law FnExactUnpackProof returns true at every argument: the program's UnpackProof and the reference's answer alike, in new memory. No condition. -/
set_option linter.unusedVariables false
namespace Go.Proofs.Ytmmhghddldhogaa.Pure
open Go Go.RowKit Go.Proofs.Ytmmhghddldhogaa.S Go.Proofs.YtmmhghddldhogaaW.PrintWords Go.Proofs.YtmmhghddldhogaaW.PrintLast Go.Proofs.YtmmhghddldhogaaW.PrintMore Go.Proofs.Ytmmhghddldhogaa.Base

theorem FnExactUnpackProof (l0 : List Int) (hl : l0.length ≤ 9223372036854775807) (hw : ∀ y ∈ l0, (Lit.int .u8 y).wf = true) (A0 : Option Addr) (c0 : Nat) (w : World) (hr0 : Kd.C (Kd.int .u8) w A0 l0.length l0) (hc0 : l0.length ≤ c0) :
    Calls Try.prog 15 #[.slice A0 l0.length c0] w fun e w' => e = .returned (.bool true) ∧ Below w.heap.size w w' := by
  by_cases hlen : l0.length ≤ 1048576
  · have hy := byt_of_wf hw
    obtain ⟨q0, q1, q2, rs, his, hi, hs⟩ := up_ex hy
    obtain ⟨hn, hn2⟩ := his.small
    have hf := flat_small (n := 15) (m := 32) hn (fun w hm => by have := hn2 w hm; omega)
    have hmr : ∀ l ∈ rs, l.length ≤ 281474976710656 := fun l hm => by have := hn2 l hm; omega
    obtain ⟨kt, ht⟩ := (toByteS_ev l0 (by omega)).rounds
    obtain ⟨ke, he⟩ := (eqByteS_ev l0 (by omega)).rounds
    obtain ⟨km, hm⟩ := (markByteS_ev l0 1 (by omega) (by omega)).rounds
    obtain ⟨kr, her⟩ := (show Ev (fun k => laws_eqProofResult.f k q0 q1 q2 rs q0 q1 q2 rs) true from by
      unfold laws_eqProofResult.f laws_eqProof.f
      exact ev_pos rfl (ev_bind (ev_pos rfl (ev_pos rfl (ev_bind (eqByteSS_ev rs (by omega) hmr) (ev_pos rfl (ev_now rfl))))) (ev_pos rfl (ev_now rfl)))).rounds
    obtain ⟨kh, hh⟩ := (show Ev (fun k => laws_heldProofResult.f k q0 q1 q2 (markAll 1 rs) 1) (1 + (rs.flatten.length : Int)) from by
      unfold laws_heldProofResult.f laws_heldProof.f
      exact ev_bind (ev_bind (heldSS_ev rs 1 (by omega) (by omega) (by omega)) (ev_neg (by omega) (ev_now rfl))) (ev_neg (by omega) (ev_now rfl))).rounds
    exact law_UnpackProof A0 c0 l0 q0 q1 q2 rs (marked 1 l0.length) rs.flatten.length (markAll 1 rs) w hr0 hc0 hlen ke kr kh km kt ht he hs hi her hm rfl (by omega) (by omega) rfl (markAll_length rs 1) hh
  · exact law_UnpackProof_big0 A0 c0 l0 w hlen
end Go.Proofs.Ytmmhghddldhogaa.Pure
