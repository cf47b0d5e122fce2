import Derived.Test.YtmmhghddldhogaaBase
import Derived.Test.YtmmhghddldhogaaSxLawsHelp
import Derived.Test.YtmmhghddldhogaaSxLawsHelp
import Derived.Test.YtmmhghddldhogaaSxSpecL1P
import Derived.Test.YtmmhghddldhogaaSxImplPackedY
import Derived.Test.YtmmhghddldhogaaSxImplUnpackWords
import Derived.Test.YtmmhghddldhogaaSxSpecUnpackWords
import Derived.Test.YtmmhghddldhogaaSxBytesClone
import Derived.Test.YtmmhghddldhogaaSxImplSmall
import Derived.Test.YtmmhghddldhogaaSxSpecL1
import Derived.Test.YtmmhghddldhogaaSxSpecHeadFault
import Derived.Test.YtmmhghddldhogaaSxImplHeadFault
import Derived.Test.YtmmhghddldhogaaSxImplAreDigestsY
import Derived.Test.YtmmhghddldhogaaSxSpecL1N
import Derived.Test.YtmmhghddldhogaaSxImplSmall
import Derived.Test.YtmmhghddldhogaaSxImplPackHead
import Derived.Test.YtmmhghddldhogaaSxImplNumberOf
import Derived.Test.YtmmhghddldhogaaSxSpecL1N
import Derived.Test.YtmmhghddldhogaaSxBytesEqual
import Derived.Lib.Bytes
import Derived.Test.YtmmhghddldhogaaSx0
import Derived.WalkSpells
import Derived.Laws.Tables
import Derived.Laws.CopyOwn
import Derived.Test.YtmmhghddldhogaaSxImplUnpackWords
import Derived.Test.YtmmhghddldhogaaSxImplNumberOf
import Derived.Test.YtmmhghddldhogaaSxImplPackHead
import Derived.Test.YtmmhghddldhogaaSxBytesEqual
import Derived.Test.YtmmhghddldhogaaSxSpecUnpackWords
import Derived.Test.YtmmhghddldhogaaSxSpecL1N
import Derived.Test.YtmmhghddldhogaaSxSpecHeadFault
import Derived.Test.YtmmhghddldhogaaSxLawsHeldHeadResultY
import Derived.Test.YtmmhghddldhogaaSxLawsMarkHeadResultY
import Derived.Test.YtmmhghddldhogaaSxLawsHelp
import Derived.Test.YtmmhghddldhogaaSxLawsEqHeadResultY
import Derived.Test.YtmmhghddldhogaaSxLawsHeldHeadResultY
import Derived.Test.YtmmhghddldhogaaSxLawsEqHeadResultY
import Derived.Test.YtmmhghddldhogaaSxLawsMarkHeadResultY
import Derived.Test.YtmmhghddldhogaaSxLawsHeldHeadResultY
import Derived.Test.YtmmhghddldhogaaSxLawsEqHeadY
import Derived.Test.YtmmhghddldhogaaSxLawsMarkHeadY
import Derived.Test.YtmmhghddldhogaaSxLawsHeldHeadY
/- What the laws' own helpers on byte slices come to: toByteS copies, eqByteS compares, markByteS and heldByteS count alike. For every slice that fits memory. -/
set_option linter.unusedVariables false
namespace Go.Proofs.Ytmmhghddldhogaa.S
open Go.RowKit Go.Proofs.YtmmhghddldhogaaW.PrintWords Go.Proofs.YtmmhghddldhogaaW.PrintLast Go.Proofs.YtmmhghddldhogaaW.PrintMore Go.Proofs.Ytmmhghddldhogaa.Base

theorem toByteS_l0 (l : List Int) (hl : l.length ≤ 281474976710656) : ∀ (d : Nat) (x : List Int) (i : Nat), i + d = l.length → x.length = l.length → (∀ j, j < i → x[j]? = l[j]?) → Ev (fun k => laws_toByteS.l0 k l x (i : Int)) l := by
  intro d
  induction d with
  | zero =>
    intro x i hi hx hj
    refine ev_step (fun k => laws_toByteS.l0.eq_2 _ _ _ _) ?_
    refine ev_neg (by omega) ?_
    rw [fill_all hx (fun j h => hj j (by omega))]
    exact ev_now rfl
  | succ d ih =>
    intro x i hi hx hj
    refine ev_step (fun k => laws_toByteS.l0.eq_2 _ _ _ _) ?_
    refine ev_pos (by omega) ?_
    refine ev_pos (by omega) ?_
    refine ev_pos (by omega) ?_
    rw [w64s (by omega), Int.toNat_natCast]
    exact ih _ (i + 1) (by omega) (by rw [List.length_set]; exact hx) (fill_step (by omega) hx hj)
theorem toByteS_ev (l : List Int) (hl : l.length ≤ 281474976710656) : Ev (fun k => laws_toByteS.f k l) l := by
  unfold laws_toByteS.f
  refine ev_pos (by omega) ?_
  refine ev_pos (by omega) ?_
  exact toByteS_l0 l hl l.length _ 0 (by omega) (by simp) (fun j h => by omega)
theorem eqByteS_l0 (l : List Int) (hl : l.length ≤ 281474976710656) : ∀ (d i : Nat), i + d = l.length → Ev (fun k => laws_eqByteS.l0 k l l (i : Int)) true := by
  intro d
  induction d with
  | zero =>
    intro i hi
    refine ev_step (fun k => laws_eqByteS.l0.eq_2 _ _ _ _) ?_
    refine ev_neg (by omega) ?_
    exact ev_now rfl
  | succ d ih =>
    intro i hi
    refine ev_step (fun k => laws_eqByteS.l0.eq_2 _ _ _ _) ?_
    refine ev_pos (by omega) ?_
    refine ev_pos (by omega) ?_
    refine ev_pos (by omega) ?_
    refine ev_pos rfl ?_
    rw [w64s (by omega)]
    exact ih (i + 1) (by omega)
theorem eqByteS_ev (l : List Int) (hl : l.length ≤ 281474976710656) : Ev (fun k => laws_eqByteS.f k l l) true := by
  unfold laws_eqByteS.f
  refine ev_pos rfl ?_
  exact eqByteS_l0 l hl l.length 0 (by omega)
end Go.Proofs.Ytmmhghddldhogaa.S

/- What the laws' markByteS and heldByteS come to: places are numbered from a start on, and found numbered so. For every slice and start that fit. -/
set_option linter.unusedVariables false
namespace Go.Proofs.Ytmmhghddldhogaa.S
open Go.RowKit Go.Proofs.YtmmhghddldhogaaW.PrintWords Go.Proofs.YtmmhghddldhogaaW.PrintLast Go.Proofs.YtmmhghddldhogaaW.PrintMore Go.Proofs.Ytmmhghddldhogaa.Base

/-- n places numbered from a on. -/
def marked (a : Int) (n : Nat) : List Int := (List.range n).map fun (j : Nat) => (a + (j : Int)) % 256
theorem marked_length (a : Int) (n : Nat) : (marked a n).length = n := by simp [marked]
theorem marked_at (a : Int) (n j : Nat) (h : j < n) : (marked a n)[j]? = some ((a + (j : Int)) % 256) := by
  simp [marked, List.getElem?_map, List.getElem?_range h]
theorem markByteS_l0 (a : Int) (n : Nat) (h0 : 0 ≤ a) (h1 : a + n ≤ 4611686018427387904) : ∀ (d i : Nat) (x : List Int), i + d = n → x.length = n → (∀ j, j < i → x[j]? = (marked a n)[j]?) → Ev (fun k => laws_markByteS.l0 k x (a + (i : Int)) (i : Int)) (a + (n : Int), marked a n) := by
  intro d
  induction d with
  | zero =>
    intro i x hi hx hj
    refine ev_step (fun k => laws_markByteS.l0.eq_2 _ _ _ _) (ev_neg (by omega) ?_)
    have e : x = marked a n := fill_all (by rw [marked_length]; exact hx) (fun j h => hj j (by rw [marked_length] at h; omega))
    rw [e, show i = n by omega]
    exact ev_now rfl
  | succ d ih =>
    intro i x hi hx hj
    refine ev_step (fun k => laws_markByteS.l0.eq_2 _ _ _ _) (ev_pos (by omega) (ev_pos (by omega) ?_))
    rw [w64s (by omega), w64 (n := a + (i : Int) + 1) (by omega) (by omega), Int.toNat_natCast, show a + (i : Int) + 1 = a + ((i + 1 : Nat) : Int) by omega]
    refine ih (i + 1) _ (by omega) (by rw [List.length_set]; exact hx) ?_
    intro j hj'
    rw [List.getElem?_set]
    by_cases e : i = j
    · subst e
      rw [if_pos rfl, if_pos (by omega), marked_at a n i (by omega)]
    · rw [if_neg e]; exact hj j (by omega)
theorem markByteS_ev (l : List Int) (a : Int) (h0 : 0 ≤ a) (h1 : a + l.length ≤ 4611686018427387904) : Ev (fun k => laws_markByteS.f k l a) (a + (l.length : Int), marked a l.length) := by
  have h := markByteS_l0 a l.length h0 h1 l.length 0 l (by omega) rfl (fun j h => by omega)
  rw [show a + ((0 : Nat) : Int) = a by omega] at h
  exact h
theorem heldByteS_l0 (a : Int) (n : Nat) (h0 : 0 ≤ a) (h1 : a + n ≤ 4611686018427387904) : ∀ (d i : Nat), i + d = n → Ev (fun k => laws_heldByteS.l0 k (marked a n) (a + (i : Int)) (i : Int)) (a + (n : Int)) := by
  intro d
  induction d with
  | zero =>
    intro i hi
    refine ev_step (fun k => laws_heldByteS.l0.eq_2 _ _ _ _) (ev_neg (by rw [marked_length]; omega) ?_)
    rw [show i = n by omega]
    exact ev_now rfl
  | succ d ih =>
    intro i hi
    refine ev_step (fun k => laws_heldByteS.l0.eq_2 _ _ _ _) (ev_pos (by rw [marked_length]; omega) (ev_pos (by omega) (ev_pos ?_ ?_)))
    · unfold rd
      rw [List.getD_eq_getElem?_getD, Int.toNat_natCast, marked_at a n i (by omega)]
      rfl
    · rw [w64s (by omega), w64 (n := a + (i : Int) + 1) (by omega) (by omega), show a + (i : Int) + 1 = a + ((i + 1 : Nat) : Int) by omega]
      exact ih (i + 1) (by omega)
theorem heldByteS_ev (n : Nat) (a : Int) (h0 : 0 ≤ a) (h1 : a + n ≤ 4611686018427387904) : Ev (fun k => laws_heldByteS.f k (marked a n) a) (a + (n : Int)) := by
  have h := heldByteS_l0 a n h0 h1 n 0 (by omega)
  rw [show a + ((0 : Nat) : Int) = a by omega] at h
  exact h
end Go.Proofs.Ytmmhghddldhogaa.S

/- Words behind one another, each with its length ahead: what the program's packed and the reference's l1Pack come to. -/
set_option linter.unusedVariables false
namespace Go.Proofs.Ytmmhghddldhogaa.S
open Go.RowKit Go.Proofs.YtmmhghddldhogaaW.PrintWords Go.Proofs.YtmmhghddldhogaaW.PrintLast Go.Proofs.YtmmhghddldhogaaW.PrintMore Go.Proofs.Ytmmhghddldhogaa.Base

/-- Words behind one another, each with its length ahead. -/
def packL : List (List Int) → List Int
  | [] => []
  | w :: ws => (((w.length : Int) % 256) :: w) ++ packL ws
theorem packL_cons_length (w : List Int) (ws : List (List Int)) : (packL (w :: ws)).length = 1 + w.length + (packL ws).length := by
  simp [packL]
  omega
theorem rdW (l : List (List Int)) (i : Nat) (h : i < l.length) : rd_L2 l (i : Int) = l[i] := by
  unfold rd_L2
  simp [List.getD_eq_getElem?_getD, List.getElem?_eq_getElem h]
theorem l1Pack_l0 (ws : List (List Int)) (hw : ws.length ≤ 1048576) : ∀ (d i : Nat) (y : List Int), i + d = ws.length → y.length + (packL (ws.drop i)).length < 140737488355328 → Ev (fun k => spec_l1Pack.l0 k ws y (i : Int)) (y ++ packL (ws.drop i)) := by
  intro d
  induction d with
  | zero =>
    intro i y hi hl
    rw [List.drop_of_length_le (by omega)]
    exact ev_step (fun k => spec_l1Pack.l0.eq_2 _ _ _ _) (ev_neg (by omega) (ev_now (by simp [packL])))
  | succ d ih =>
    intro i y hi hl
    rw [List.drop_eq_getElem_cons (by omega)] at hl ⊢
    rw [packL_cons_length] at hl
    refine ev_step (fun k => spec_l1Pack.l0.eq_2 _ _ _ _) (ev_pos (by omega) (ev_pos (by omega) (ev_pos (by omega) ?_)))
    rw [rdW ws i (by omega)]
    refine ev_bind (ev_now rfl) (ev_pos (by simp; omega) ?_)
    rw [w64s (by omega)]
    refine ev_eq (ih (i + 1) _ (by omega) (by simp; omega)) ?_
    simp [packL]
theorem l1Pack_ev (ws : List (List Int)) (hw : ws.length ≤ 1048576) (hl : (packL ws).length < 140737488355328) : Ev (fun k => spec_l1Pack.f k ws) (packL ws) := by
  have h := l1Pack_l0 ws hw ws.length 0 [] (by omega) (by simpa using hl)
  unfold spec_l1Pack.f
  simpa using h
/-- The words that are packed, and whether they are few and short. -/
def packedV (ws : List (List Int)) : List Int × Bool := if ws.length > 60 then ([], false) else if (∀ w ∈ ws, w.length ≤ 200) ∧ (packL ws).length ≤ 4000 then (packL ws, true) else ([], false)
theorem packed_l0 (ws : List (List Int)) (hw : ws.length ≤ 60) (hs : ∀ w ∈ ws, w.length ≤ 9223372036854771000) : ∀ (d i : Nat) (y : List Int), i + d = ws.length → y.length ≤ 4000 → Ev (fun k => impl_packed.l0 k y ws (ws.length : Int) (i : Int)) (if (∀ w ∈ ws.drop i, w.length ≤ 200) ∧ y.length + (packL (ws.drop i)).length ≤ 4000 then (y ++ packL (ws.drop i), true) else ([], false)) := by
  intro d
  induction d with
  | zero =>
    intro i y hi hl
    rw [List.drop_of_length_le (by omega)]
    rw [if_pos ⟨fun w hw => (by cases hw), (by simpa [packL] using hl)⟩]
    exact ev_step (fun k => impl_packed.l0.eq_2 _ _ _ _ _) (ev_neg (by omega) (ev_now (by simp [packL])))
  | succ d ih =>
    intro i y hi hl
    rw [List.drop_eq_getElem_cons (by omega)]
    have hsi := hs ws[i] (List.getElem_mem _)
    refine ev_step (fun k => impl_packed.l0.eq_2 _ _ _ _ _) (ev_pos (by omega) (ev_pos (by omega) (ev_pos (by omega) ?_)))
    rw [rdW ws i (by omega), packL_cons_length]
    by_cases c : ws[i].length > 200
    · rw [if_neg (fun h => by have := h.1 ws[i] List.mem_cons_self; omega)]
      exact ev_pos (by omega) (ev_now rfl)
    · refine ev_neg (by omega) ?_
      rw [w64 (n := (y.length : Int) + 1) (by omega) (by omega), w64 (n := (y.length : Int) + 1 + (ws[i].length : Int)) (by omega) (by omega)]
      by_cases e : (y.length : Int) + 1 + (ws[i].length : Int) > 4000
      · rw [if_neg (fun h => by omega)]
        exact ev_pos e (ev_now rfl)
      · refine ev_neg e (ev_pos (by omega) (ev_bind (ev_now rfl) (ev_pos (by simp; omega) ?_)))
        rw [w64s (by omega)]
        refine ev_eq (ih (i + 1) _ (by omega) (by simp; omega)) ?_
        have hq : ((∀ w ∈ ws[i] :: ws.drop (i + 1), w.length ≤ 200) ∧ y.length + (1 + ws[i].length + (packL (ws.drop (i + 1))).length) ≤ 4000) ↔ ((∀ w ∈ ws.drop (i + 1), w.length ≤ 200) ∧ (y ++ [(ws[i].length : Int) % 256] ++ ws[i]).length + (packL (ws.drop (i + 1))).length ≤ 4000) := by
          have hlen : (y ++ [(ws[i].length : Int) % 256] ++ ws[i]).length = y.length + 1 + ws[i].length := by simp; omega
          rw [hlen]
          constructor
          · rintro ⟨h1, h2⟩
            exact ⟨fun w hw => h1 w (List.mem_cons_of_mem _ hw), by omega⟩
          · rintro ⟨h1, h2⟩
            refine ⟨fun w hw => ?_, by omega⟩
            rcases List.mem_cons.1 hw with rfl | hw
            · omega
            · exact h1 w hw
        by_cases g : (∀ w ∈ ws[i] :: ws.drop (i + 1), w.length ≤ 200) ∧ y.length + (1 + ws[i].length + (packL (ws.drop (i + 1))).length) ≤ 4000
        · rw [if_pos g, if_pos (hq.1 g)]
          simp [packL]
        · rw [if_neg g, if_neg (fun h => g (hq.2 h))]
theorem packed_ev (ws : List (List Int)) (hs : ∀ w ∈ ws, w.length ≤ 9223372036854771000) : Ev (fun k => impl_packed.f k ws) (packedV ws) := by
  unfold impl_packed.f packedV
  by_cases c : ws.length > 60
  · rw [if_pos c]; exact ev_pos (by omega) (ev_now rfl)
  · rw [if_neg c]
    have h := packed_l0 ws (by omega) hs ws.length 0 [] (by omega) (by simp)
    simp only [List.drop_zero, List.length_nil, Nat.zero_add, List.nil_append] at h
    exact ev_neg (by omega) h
end Go.Proofs.Ytmmhghddldhogaa.S

/- Words that are unpacked: what the program's and the reference's come to; what is unpacked is packed so again. For all bytes that fit. -/
set_option linter.unusedVariables false
namespace Go.Proofs.Ytmmhghddldhogaa.S
open Go.RowKit Go.Proofs.YtmmhghddldhogaaW.PrintWords Go.Proofs.YtmmhghddldhogaaW.PrintLast Go.Proofs.YtmmhghddldhogaaW.PrintMore Go.Proofs.Ytmmhghddldhogaa.Base

def unpL (n : Nat) : Nat → List Int → Int → List (List Int) → Int × Int × List (List Int)
  | 0, _, _, _ => (0, 0, [])
  | _ + 1, [], _, ws => (0, 0, ws)
  | f + 1, c :: d, p, ws => if ws.length = 60 then (2, p, []) else if c > 200 then (3, p, []) else if c > (d.length : Int) then (5, (n : Int), []) else unpL n f (d.drop c.toNat) (p + 1 + c) (ws ++ [d.take c.toNat])
theorem cut_eq (x : List Int) (p c : Nat) (d : List Int) (y : Int) (h : x.drop p = y :: d) : (x.take (p + 1 + c)).drop (p + 1) = d.take c ∧ x.drop (p + 1 + c) = d.drop c := by
  have h1 : x.drop (p + 1) = d := by rw [← List.drop_drop, h]; rfl
  refine ⟨?_, by rw [← List.drop_drop, h1]⟩
  rw [List.drop_take, show p + 1 + c - (p + 1) = c by omega, h1]
theorem unp_fact (x : List Int) (hx : Byt x) (hl : x.length ≤ 4000) (p : Nat) (d : List Int) (c : Int) (h : x.drop p = c :: d) : p < x.length ∧ rd x (p : Int) = c ∧ 0 ≤ c ∧ c ≤ 255 ∧ d.length = x.length - (p + 1) := by
  have hp : p < x.length := by
    rcases Nat.lt_or_ge p x.length with g | g
    · exact g
    · rw [List.drop_of_length_le g] at h
      cases h
  have h2 := h
  rw [List.drop_eq_getElem_cons hp] at h2
  injection h2 with h3 h4
  have hb := hx x[p] (List.getElem_mem _)
  refine ⟨hp, by rw [rd_nat x p hp, h3], by omega, by omega, ?_⟩
  rw [← h4, List.length_drop]
theorem impl_unp_l0 (x : List Int) (hx : Byt x) (hl : x.length ≤ 4000) : ∀ (f p : Nat) (ws : List (List Int)), p ≤ x.length → x.length - p < f → ws.length ≤ 60 → Ev (fun k => impl_UnpackWords.l0 k x ws (p : Int)) (unpL x.length f (x.drop p) (p : Int) ws) := by
  intro f
  induction f with
  | zero => intro p ws h1 h2; omega
  | succ f ih =>
    intro p ws h1 h2 h3
    cases e : x.drop p with
    | nil =>
      have : x.length ≤ p := by
        have := congrArg List.length e
        rw [List.length_drop] at this
        simp at this
        omega
      exact ev_step (fun k => impl_UnpackWords.l0.eq_2 _ _ _ _) (ev_neg (by omega) (ev_now rfl))
    | cons c d =>
      obtain ⟨hp, hr, hc0, hc1, hd⟩ := unp_fact x hx hl p d c e
      refine ev_step (fun k => impl_UnpackWords.l0.eq_2 _ _ _ _) (ev_pos (by omega) (ev_pos (by omega) ?_))
      rw [hr, w64 (n := c) (by omega) (by omega), w64s (by omega), w64 (n := ((p + 1 : Nat) : Int) + c) (by omega) (by omega)]
      unfold unpL
      by_cases g1 : ws.length = 60
      · rw [if_pos g1]; exact ev_pos (by omega) (ev_now rfl)
      rw [if_neg g1]; refine ev_neg (by omega) ?_
      by_cases g2 : c > 200
      · rw [if_pos g2]; exact ev_pos g2 (ev_now rfl)
      rw [if_neg g2]; refine ev_neg g2 ?_
      by_cases g3 : c > (d.length : Int)
      · rw [if_pos g3]; exact ev_pos (by omega) (ev_now rfl)
      rw [if_neg g3]
      refine ev_neg (by omega) (ev_pos (by omega) (ev_pos (by omega) (ev_pos (by omega) ?_)))
      obtain ⟨cn, rfl⟩ := Int.eq_ofNat_of_zero_le hc0
      rw [show (((p + 1 : Nat) : Int) + (cn : Int)) = ((p + 1 + cn : Nat) : Int) by omega, Int.toNat_natCast, Int.toNat_natCast, (cut_eq x p cn d _ e).1, Int.toNat_natCast]
      refine ev_bind (ev_now (show bytes_Clone.f (d.take cn) = some (d.take cn) from by unfold bytes_Clone.f; rw [if_pos (by rw [List.length_take]; omega)])) (ev_pos (by omega) ?_)
      have h := ih (p + 1 + cn) (ws ++ [d.take cn]) (by omega) (by omega) (by simp; omega)
      rw [(cut_eq x p cn d _ e).2] at h
      rw [show (p : Int) + 1 + (cn : Int) = ((p + 1 + cn : Nat) : Int) by omega]
      exact h
theorem spec_unp_l0 (x : List Int) (hx : Byt x) (hl : x.length ≤ 4000) : ∀ (f p : Nat) (ws : List (List Int)), p ≤ x.length → x.length - p < f → ws.length ≤ 60 → Ev (fun k => spec_UnpackWords.l0 k x (p : Int) 0 0 ws) (unpL x.length f (x.drop p) (p : Int) ws) := by
  intro f
  induction f with
  | zero => intro p ws h1 h2; omega
  | succ f ih =>
    intro p ws h1 h2 h3
    cases e : x.drop p with
    | nil =>
      have : x.length ≤ p := by
        have := congrArg List.length e
        rw [List.length_drop] at this
        simp at this
        omega
      exact ev_step (fun k => spec_UnpackWords.l0.eq_2 _ _ _ _ _ _) (ev_neg (by omega) (ev_now rfl))
    | cons c d =>
      obtain ⟨hp, hr, hc0, hc1, hd⟩ := unp_fact x hx hl p d c e
      refine ev_step (fun k => spec_UnpackWords.l0.eq_2 _ _ _ _ _ _) (ev_pos (by omega) (ev_pos (by omega) ?_))
      rw [hr, w64 (n := c) (by omega) (by omega), w64s (by omega), w64 (n := ((p + 1 : Nat) : Int) + c) (by omega) (by omega)]
      unfold unpL
      by_cases g1 : ws.length = 60
      · rw [if_pos g1]; exact ev_pos (by omega) (ev_now rfl)
      rw [if_neg g1]; refine ev_neg (by omega) ?_
      by_cases g2 : c > 200
      · rw [if_pos g2]; exact ev_pos g2 (ev_now rfl)
      rw [if_neg g2]; refine ev_neg g2 ?_
      by_cases g3 : c > (d.length : Int)
      · rw [if_pos g3]; exact ev_pos (by omega) (ev_now rfl)
      rw [if_neg g3]
      refine ev_neg (by omega) (ev_bind (ev_now rfl) (ev_pos (by omega) (ev_pos (by omega) (ev_pos (by omega) ?_))))
      obtain ⟨cn, rfl⟩ := Int.eq_ofNat_of_zero_le hc0
      rw [show (((p + 1 : Nat) : Int) + (cn : Int)) = ((p + 1 + cn : Nat) : Int) by omega, Int.toNat_natCast, Int.toNat_natCast, (cut_eq x p cn d _ e).1, Int.toNat_natCast]
      refine ev_pos (by rw [List.length_take]; simp; omega) (ev_pos (by omega) ?_)
      have h := ih (p + 1 + cn) (ws ++ [d.take cn]) (by omega) (by omega) (by simp; omega)
      rw [(cut_eq x p cn d _ e).2] at h
      rw [show (p : Int) + 1 + (cn : Int) = ((p + 1 + cn : Nat) : Int) by omega, List.nil_append]
      exact h
def unpackV (x : List Int) : Int × Int × List (List Int) := if x.length > 4000 then (2, 0, []) else unpL x.length (x.length + 1) x 0 []
theorem impl_UnpackWords_ev {x : List Int} (hx : Byt x) : Ev (fun k => impl_UnpackWords.f k x) (unpackV x) := by
  unfold impl_UnpackWords.f unpackV
  by_cases h : x.length > 4000
  · rw [if_pos h]; exact ev_pos (by omega) (ev_now rfl)
  · rw [if_neg h]; exact ev_neg (by omega) (impl_unp_l0 x hx (by omega) (x.length + 1) 0 [] (by omega) (by omega) (by simp))
theorem spec_UnpackWords_ev {x : List Int} (hx : Byt x) : Ev (fun k => spec_UnpackWords.f k x) (unpackV x) := by
  unfold spec_UnpackWords.f unpackV
  by_cases h : x.length > 4000
  · rw [if_pos h]; exact ev_pos (by omega) (ev_now rfl)
  · rw [if_neg h]; exact ev_neg (by omega) (spec_unp_l0 x hx (by omega) (x.length + 1) 0 [] (by omega) (by omega) (by simp))
theorem packL_append : ∀ (a b : List (List Int)), packL (a ++ b) = packL a ++ packL b
  | [], b => rfl
  | w :: a, b => by simp [packL, packL_append a b]
/-- What is unpacked: few words, short ones, of bytes; no code: the bytes are these words'; a code: no words. -/
theorem unpL_ok (n : Nat) : ∀ (f : Nat) (d : List Int) (p : Int) (ws : List (List Int)), Byt d → d.length < f → (∀ w ∈ ws, Byt w ∧ w.length ≤ 200) → ws.length ≤ 60 → 0 ≤ p → p + d.length = n →
    (∀ w ∈ (unpL n f d p ws).2.2, Byt w ∧ w.length ≤ 200) ∧ (unpL n f d p ws).2.2.length ≤ 60 ∧ ((unpL n f d p ws).1 = 0 → packL (unpL n f d p ws).2.2 = packL ws ++ d) ∧ ((unpL n f d p ws).1 ≠ 0 → (unpL n f d p ws).2.2 = [] ∧ (unpL n f d p ws).2.1 ≤ n) ∧ ((unpL n f d p ws).1 = 0 → (unpL n f d p ws).2.1 = 0) := by
  intro f
  induction f with
  | zero => intro d p ws _ h; omega
  | succ f ih =>
    intro d p ws hd hf hw hl hp hn
    cases d with
    | nil => exact ⟨hw, hl, fun _ => by show packL ws = packL ws ++ []; rw [List.append_nil], fun h => absurd rfl h, fun _ => rfl⟩
    | cons c d =>
      have hc := hd c List.mem_cons_self
      have hd2 : Byt d := fun x hx => hd x (List.mem_cons_of_mem _ hx)
      simp only [List.length_cons] at hf hn
      unfold unpL
      by_cases g1 : ws.length = 60
      · rw [if_pos g1]
        exact ⟨fun w h => (by cases h), by simp, fun h => absurd (show (2 : Int) = 0 from h) (by decide), fun _ => ⟨rfl, by show p ≤ (n : Int); omega⟩, fun h => absurd (show (2 : Int) = 0 from h) (by decide)⟩
      rw [if_neg g1]
      by_cases g2 : c > 200
      · rw [if_pos g2]
        exact ⟨fun w h => (by cases h), by simp, fun h => absurd (show (3 : Int) = 0 from h) (by decide), fun _ => ⟨rfl, by show p ≤ (n : Int); omega⟩, fun h => absurd (show (3 : Int) = 0 from h) (by decide)⟩
      rw [if_neg g2]
      by_cases g3 : c > (d.length : Int)
      · rw [if_pos g3]
        exact ⟨fun w h => (by cases h), by simp, fun h => absurd (show (5 : Int) = 0 from h) (by decide), fun _ => ⟨rfl, by show (n : Int) ≤ (n : Int); omega⟩, fun h => absurd (show (5 : Int) = 0 from h) (by decide)⟩
      rw [if_neg g3]
      obtain ⟨cn, rfl⟩ := Int.eq_ofNat_of_zero_le hc.1
      rw [Int.toNat_natCast]
      have ht : (d.take cn).length = cn := by rw [List.length_take]; omega
      have := ih (d.drop cn) (p + 1 + (cn : Int)) (ws ++ [d.take cn]) (byt_drop hd2 cn) (by rw [List.length_drop]; omega) (fun w hw2 => by
        rcases List.mem_append.1 hw2 with h | h
        · exact hw w h
        · rw [List.mem_singleton.1 h]
          exact ⟨byt_take hd2 cn, by omega⟩) (by simp; omega) (by omega) (by rw [List.length_drop]; omega)
      obtain ⟨a1, a2, a3, a4, a5⟩ := this
      refine ⟨a1, a2, fun h => ?_, a4, a5⟩
      rw [a3 h, packL_append]
      have e1 : packL [d.take cn] = ((cn : Int)) :: d.take cn := by
        show ((((d.take cn).length : Int) % 256) :: d.take cn) ++ [] = _
        rw [ht, List.append_nil, Int.emod_eq_of_lt (by omega) (by omega)]
      rw [e1, List.append_assoc, List.cons_append, List.take_append_drop]
theorem unpackV_ok {x : List Int} (hx : Byt x) : (∀ w ∈ (unpackV x).2.2, Byt w ∧ w.length ≤ 200) ∧ (unpackV x).2.2.length ≤ 60 ∧ ((unpackV x).1 = 0 → packL (unpackV x).2.2 = x) ∧ ((unpackV x).1 ≠ 0 → (unpackV x).2.2 = [] ∧ (unpackV x).2.1 ≤ x.length) ∧ ((unpackV x).1 = 0 → (unpackV x).2.1 = 0) := by
  unfold unpackV
  by_cases h : x.length > 4000
  · rw [if_pos h]
    exact ⟨fun w h => (by cases h), by simp, fun h => absurd (show (2 : Int) = 0 from h) (by decide), fun _ => ⟨rfl, by show (0 : Int) ≤ _; omega⟩, fun h => absurd (show (2 : Int) = 0 from h) (by decide)⟩
  · rw [if_neg h]
    have := unpL_ok x.length (x.length + 1) x 0 [] hx (by omega) (fun w h => (by cases h)) (by simp) (by omega) (by omega)
    exact this
/-- Words that are packed are unpacked as they were. -/
theorem unpL_pack (n : Nat) : ∀ (vs : List (List Int)) (f : Nat) (p : Int) (ws : List (List Int)), (∀ w ∈ vs, w.length ≤ 200) → (packL vs).length < f → ws.length + vs.length ≤ 60 → unpL n f (packL vs) p ws = (0, 0, ws ++ vs) := by
  intro vs
  induction vs with
  | nil =>
    intro f p ws _ hf _
    obtain ⟨f, rfl⟩ : ∃ m, f = m + 1 := ⟨f - 1, by simp [packL] at hf; omega⟩
    show (0, 0, ws) = _
    rw [List.append_nil]
  | cons v vs ih =>
    intro f p ws hw hf hl
    have hv := hw v List.mem_cons_self
    rw [packL_cons_length] at hf
    simp only [List.length_cons] at hl
    obtain ⟨f, rfl⟩ : ∃ m, f = m + 1 := ⟨f - 1, by omega⟩
    have e : packL (v :: vs) = (v.length : Int) :: (v ++ packL vs) := by
      show ((v.length : Int) % 256 :: v) ++ packL vs = _
      rw [Int.emod_eq_of_lt (by omega) (by omega)]
      rfl
    rw [e]
    unfold unpL
    rw [if_neg (by omega), if_neg (by omega), if_neg (by rw [List.length_append]; omega), Int.toNat_natCast, List.drop_left, List.take_left, ih f _ _ (fun w h => hw w (List.mem_cons_of_mem _ h)) (by omega) (by simp; omega), List.append_assoc]
    rfl
theorem unpackV_pack {vs : List (List Int)} (hw : ∀ w ∈ vs, w.length ≤ 200) (hl : vs.length ≤ 60) (hn : (packL vs).length ≤ 4000) : unpackV (packL vs) = (0, 0, vs) := by
  unfold unpackV
  rw [if_neg (by omega), unpL_pack _ vs _ _ [] hw (by omega) (by simpa using hl)]
  rfl
end Go.Proofs.Ytmmhghddldhogaa.S

/- Is a number in its bounds: the program's and the reference's answer. -/
set_option linter.unusedVariables false
namespace Go.Proofs.Ytmmhghddldhogaa.S
open Go.RowKit Go.Proofs.YtmmhghddldhogaaW.PrintWords Go.Proofs.YtmmhghddldhogaaW.PrintLast Go.Proofs.YtmmhghddldhogaaW.PrintMore Go.Proofs.Ytmmhghddldhogaa.Base

theorem in_eq (a b c : Int) : impl_in.f a b c = some (decide (b ≤ a ∧ a ≤ c)) := by
  unfold impl_in.f
  by_cases h : b ≤ a <;> simp [h]
theorem l1In_eq (a b c : Int) : spec_l1In.f a b c = some (decide (b ≤ a ∧ a ≤ c)) := by
  unfold spec_l1In.f
  by_cases h : b ≤ a <;> simp [h]
end Go.Proofs.Ytmmhghddldhogaa.S

/- Heads: what the laws' helpers on a head, the program's HeadFault and the reference's come to. For all heads whose slices fit. -/
set_option linter.unusedVariables false
namespace Go.Proofs.Ytmmhghddldhogaa.S
open Go.RowKit Go.Proofs.YtmmhghddldhogaaW.PrintWords Go.Proofs.YtmmhghddldhogaaW.PrintLast Go.Proofs.YtmmhghddldhogaaW.PrintMore Go.Proofs.Ytmmhghddldhogaa.Base

/-- The code of a head. -/
def headFaultV (l0 : List Int) (a1 a2 a3 : Int) (l4 : List Int) (a5 : Int) : Int :=
  if l0.length ≠ 32 ∨ l4.length ≠ 32 then 1 else if (0 ≤ a1 ∧ a1 ≤ 1000000) ∧ (0 ≤ a2 ∧ a2 ≤ 1099511627776) ∧ (0 ≤ a3 ∧ a3 ≤ 40) ∧ (0 ≤ a5 ∧ a5 ≤ 2199023255552) then 0 else 3
theorem impl_headFault_eq (l0 : List Int) (a1 a2 a3 : Int) (l4 : List Int) (a5 : Int) : impl_HeadFault.f l0 a1 a2 a3 l4 a5 = some (headFaultV l0 a1 a2 a3 l4 a5) := by
  unfold impl_HeadFault.f headFaultV impl_areDigests.f impl_isZeros.f
  simp only [in_eq, Option.bind_some, List.all_cons, List.all_nil, Bool.and_true, Bool.and_eq_true, beq_iff_eq, decide_eq_true_iff]
  by_cases c0 : l0.length = 32
  · by_cases c4 : l4.length = 32
    · by_cases d1 : 0 ≤ a1 ∧ a1 ≤ 1000000
      · by_cases d2 : 0 ≤ a2 ∧ a2 ≤ 1099511627776
        · by_cases d3 : 0 ≤ a3 ∧ a3 ≤ 40
          · by_cases d5 : 0 ≤ a5 ∧ a5 ≤ 2199023255552 <;> simp [c0, c4, d1, d2, d3, d5]
          · simp [c0, c4, d1, d2, d3]
        · simp [c0, c4, d1, d2]
      · simp [c0, c4, d1]
    · rw [if_neg (fun h => c4 (by omega)), if_pos (Or.inr c4)]
  · rw [if_neg (fun h => c0 (by omega)), if_pos (Or.inl c0)]
theorem spec_headFault_ev (l0 : List Int) (a1 a2 a3 : Int) (l4 : List Int) (a5 : Int) : Ev (fun k => spec_HeadFault.f k l0 a1 a2 a3 l4 a5) (headFaultV l0 a1 a2 a3 l4 a5) := by
  unfold spec_HeadFault.f
  by_cases c0 : l0.length = 32
  · refine ev_pos (show (l0.length : Int) = 32 by omega) (ev_step (fun k => spec_HeadFault.j0.eq_2 _ _ _ _ _ _ _ _) ?_)
    by_cases c4 : l4.length = 32
    · refine ev_neg (show ¬ ((l4.length : Int) != 32) = true by rw [c4]; decide) (ev_bind (ev_now (l1In_eq _ _ _)) ?_)
      have three (h : ¬ ((0 ≤ a1 ∧ a1 ≤ 1000000) ∧ (0 ≤ a2 ∧ a2 ≤ 1099511627776) ∧ (0 ≤ a3 ∧ a3 ≤ 40) ∧ (0 ≤ a5 ∧ a5 ≤ 2199023255552))) : 3 = headFaultV l0 a1 a2 a3 l4 a5 := by
        rw [headFaultV, if_neg (fun h : l0.length ≠ 32 ∨ l4.length ≠ 32 => by omega), if_neg h]
      by_cases d1 : 0 ≤ a1 ∧ a1 ≤ 1000000
      · refine ev_pos (decide_eq_true d1) (ev_bind (ev_now (l1In_eq _ _ _)) ?_)
        by_cases d2 : 0 ≤ a2 ∧ a2 ≤ 1099511627776
        · refine ev_pos (decide_eq_true d2) (ev_bind (ev_now (l1In_eq _ _ _)) ?_)
          by_cases d3 : 0 ≤ a3 ∧ a3 ≤ 40
          · refine ev_pos (decide_eq_true d3) (ev_bind (ev_now (l1In_eq _ _ _)) ?_)
            by_cases d5 : 0 ≤ a5 ∧ a5 ≤ 2199023255552
            · exact ev_eq (ev_pos (decide_eq_true d5) (ev_now rfl)) (by rw [headFaultV, if_neg (fun h : l0.length ≠ 32 ∨ l4.length ≠ 32 => by omega), if_pos ⟨d1, d2, d3, d5⟩])
            · exact ev_eq (ev_neg (fun h => d5 (of_decide_eq_true h)) (ev_now rfl)) (three fun h => d5 h.2.2.2)
          · exact ev_eq (ev_neg (fun h => d3 (of_decide_eq_true h)) (ev_now rfl)) (three fun h => d3 h.2.2.1)
        · exact ev_eq (ev_neg (fun h => d2 (of_decide_eq_true h)) (ev_now rfl)) (three fun h => d2 h.2.1)
      · exact ev_eq (ev_neg (fun h => d1 (of_decide_eq_true h)) (ev_now rfl)) (three fun h => d1 h.1)
    · exact ev_eq (ev_pos (show ((l4.length : Int) != 32) = true from bne_iff_ne.2 (by omega)) (ev_now rfl)) (by rw [headFaultV, if_pos (Or.inr c4)])
  · exact ev_eq (ev_neg (show ¬ (l0.length : Int) = 32 by omega) (ev_step (fun k => spec_HeadFault.j0.eq_2 _ _ _ _ _ _ _ _) (ev_pos rfl (ev_now rfl)))) (by rw [headFaultV, if_pos (Or.inl c0)])
end Go.Proofs.Ytmmhghddldhogaa.S

/- A number as seven bytes: the program's number and the reference's l1Put come to the same bytes. For every number. -/
set_option linter.unusedVariables false
namespace Go.Proofs.Ytmmhghddldhogaa.S
open Go.RowKit Go.Proofs.YtmmhghddldhogaaW.PrintWords Go.Proofs.YtmmhghddldhogaaW.PrintLast Go.Proofs.YtmmhghddldhogaaW.PrintMore Go.Proofs.Ytmmhghddldhogaa.Base

/-- The seven bytes of a number, the highest first. -/
def num7 (n : Int) : List Int := [n / 281474976710656 % 256, n / 1099511627776 % 256, n / 4294967296 % 256, n / 16777216 % 256, n / 65536 % 256, n / 256 % 256, n % 256]
theorem num7_byt (n : Int) : Byt (num7 n) := by
  intro x hx
  simp only [num7, List.mem_cons, List.not_mem_nil, or_false] at hx
  rcases hx with rfl | rfl | rfl | rfl | rfl | rfl | rfl <;> omega
theorem num7_length (n : Int) : (num7 n).length = 7 := rfl
theorem l1Put_ev (n : Int) : Ev (fun k => spec_l1Put.f k n) (num7 n) := by
  unfold spec_l1Put.f
  refine ev_step (fun k => spec_l1Put.l0.eq_2 _ _ _ _) (ev_pos (by decide +kernel) (ev_pos (by decide +kernel) (ev_pos (by simp) ?_)))
  rw [show wrap64 (6 - 1) = 5 from by decide +kernel]
  refine ev_step (fun k => spec_l1Put.l0.eq_2 _ _ _ _) (ev_pos (by decide +kernel) (ev_pos (by decide +kernel) (ev_pos (by simp) ?_)))
  rw [show wrap64 (5 - 1) = 4 from by decide +kernel]
  refine ev_step (fun k => spec_l1Put.l0.eq_2 _ _ _ _) (ev_pos (by decide +kernel) (ev_pos (by decide +kernel) (ev_pos (by simp) ?_)))
  rw [show wrap64 (4 - 1) = 3 from by decide +kernel]
  refine ev_step (fun k => spec_l1Put.l0.eq_2 _ _ _ _) (ev_pos (by decide +kernel) (ev_pos (by decide +kernel) (ev_pos (by simp) ?_)))
  rw [show wrap64 (3 - 1) = 2 from by decide +kernel]
  refine ev_step (fun k => spec_l1Put.l0.eq_2 _ _ _ _) (ev_pos (by decide +kernel) (ev_pos (by decide +kernel) (ev_pos (by simp) ?_)))
  rw [show wrap64 (2 - 1) = 1 from by decide +kernel]
  refine ev_step (fun k => spec_l1Put.l0.eq_2 _ _ _ _) (ev_pos (by decide +kernel) (ev_pos (by decide +kernel) (ev_pos (by simp) ?_)))
  rw [show wrap64 (1 - 1) = 0 from by decide +kernel]
  refine ev_step (fun k => spec_l1Put.l0.eq_2 _ _ _ _) (ev_pos (by decide +kernel) (ev_pos (by decide +kernel) (ev_pos (by simp) ?_)))
  rw [show wrap64 (0 - 1) = -1 from by decide +kernel]
  refine ev_step (fun k => spec_l1Put.l0.eq_2 _ _ _ _) (ev_neg (by decide +kernel) (ev_now ?_))
  rw [show IntKind.u64.wrap (wrap64 (8 * 6)) = 48 from by decide +kernel, show IntKind.u64.wrap (wrap64 (8 * 5)) = 40 from by decide +kernel, show IntKind.u64.wrap (wrap64 (8 * 4)) = 32 from by decide +kernel, show IntKind.u64.wrap (wrap64 (8 * 3)) = 24 from by decide +kernel, show IntKind.u64.wrap (wrap64 (8 * 2)) = 16 from by decide +kernel, show IntKind.u64.wrap (wrap64 (8 * 1)) = 8 from by decide +kernel, show IntKind.u64.wrap (wrap64 (8 * 0)) = 0 from by decide +kernel]
  simp [shr, num7, IntKind.bits]
theorem number_ev (n : Int) : Ev (fun k => impl_number.f k n) (num7 n) := by
  unfold impl_number.f
  refine ev_pos (by omega) ?_
  refine ev_step (fun k => impl_number.l0.eq_2 _ _ _ _) (ev_pos (by decide +kernel) (ev_pos (by decide +kernel) (ev_pos (by simp) ?_)))
  rw [show wrap64 (6 - 1) = 5 from by decide +kernel]
  refine ev_step (fun k => impl_number.l0.eq_2 _ _ _ _) (ev_pos (by decide +kernel) (ev_pos (by decide +kernel) (ev_pos (by simp) ?_)))
  rw [show wrap64 (5 - 1) = 4 from by decide +kernel]
  refine ev_step (fun k => impl_number.l0.eq_2 _ _ _ _) (ev_pos (by decide +kernel) (ev_pos (by decide +kernel) (ev_pos (by simp) ?_)))
  rw [show wrap64 (4 - 1) = 3 from by decide +kernel]
  refine ev_step (fun k => impl_number.l0.eq_2 _ _ _ _) (ev_pos (by decide +kernel) (ev_pos (by decide +kernel) (ev_pos (by simp) ?_)))
  rw [show wrap64 (3 - 1) = 2 from by decide +kernel]
  refine ev_step (fun k => impl_number.l0.eq_2 _ _ _ _) (ev_pos (by decide +kernel) (ev_pos (by decide +kernel) (ev_pos (by simp) ?_)))
  rw [show wrap64 (2 - 1) = 1 from by decide +kernel]
  refine ev_step (fun k => impl_number.l0.eq_2 _ _ _ _) (ev_pos (by decide +kernel) (ev_pos (by decide +kernel) (ev_pos (by simp) ?_)))
  rw [show wrap64 (1 - 1) = 0 from by decide +kernel]
  refine ev_step (fun k => impl_number.l0.eq_2 _ _ _ _) (ev_pos (by decide +kernel) (ev_pos (by decide +kernel) (ev_pos (by simp) ?_)))
  rw [show wrap64 (0 - 1) = -1 from by decide +kernel]
  refine ev_step (fun k => impl_number.l0.eq_2 _ _ _ _) (ev_neg (by decide +kernel) (ev_now ?_))
  simp [num7, List.replicate]
  omega
end Go.Proofs.Ytmmhghddldhogaa.S

/- Packed heads: the program's PackHead and the reference's come to the same bytes. For every head. -/
set_option linter.unusedVariables false
namespace Go.Proofs.Ytmmhghddldhogaa.S
open Go.RowKit Go.Proofs.YtmmhghddldhogaaW.PrintWords Go.Proofs.YtmmhghddldhogaaW.PrintLast Go.Proofs.YtmmhghddldhogaaW.PrintMore Go.Proofs.Ytmmhghddldhogaa.Base

/-- The bytes of a head without a fault. -/
def packHeadV (l0 : List Int) (a1 a2 a3 : Int) (l4 : List Int) (a5 : Int) : Int × List Int :=
  if headFaultV l0 a1 a2 a3 l4 a5 = 0 then (0, packL [l0, num7 a1, num7 a2, num7 a3, l4, num7 a5]) else (headFaultV l0 a1 a2 a3 l4 a5, [])
theorem headFault_zero {l0 : List Int} {a1 a2 a3 : Int} {l4 : List Int} {a5 : Int} (h : headFaultV l0 a1 a2 a3 l4 a5 = 0) : l0.length = 32 ∧ l4.length = 32 ∧ (0 ≤ a1 ∧ a1 ≤ 1000000) ∧ (0 ≤ a2 ∧ a2 ≤ 1099511627776) ∧ (0 ≤ a3 ∧ a3 ≤ 40) ∧ (0 ≤ a5 ∧ a5 ≤ 2199023255552) := by
  unfold headFaultV at h
  split at h
  · omega
  · split at h
    · rename_i g1 g2
      exact ⟨by omega, by omega, g2.1, g2.2.1, g2.2.2.1, g2.2.2.2⟩
    · omega
theorem packHead_length {l0 : List Int} {l4 : List Int} (h0 : l0.length = 32) (h4 : l4.length = 32) (a1 a2 a3 a5 : Int) : (packL [l0, num7 a1, num7 a2, num7 a3, l4, num7 a5]).length = 98 := by
  simp only [packL_cons_length, num7_length, h0, h4]
  rfl
theorem packHeadV_length (l0 : List Int) (a1 a2 a3 : Int) (l4 : List Int) (a5 : Int) : (packHeadV l0 a1 a2 a3 l4 a5).2.length ≤ 98 := by
  unfold packHeadV
  split
  · rename_i h
    obtain ⟨h0, h4, _⟩ := headFault_zero h
    simp only
    rw [packHead_length h0 h4]
    exact Nat.le_refl _
  · simp
theorem impl_packHead_ev (l0 : List Int) (a1 a2 a3 : Int) (l4 : List Int) (a5 : Int) : Ev (fun k => impl_PackHead.f k l0 a1 a2 a3 l4 a5) (packHeadV l0 a1 a2 a3 l4 a5) := by
  unfold impl_PackHead.f packHeadV
  refine ev_bind (ev_now (impl_headFault_eq l0 a1 a2 a3 l4 a5)) ?_
  by_cases c : headFaultV l0 a1 a2 a3 l4 a5 = 0
  · obtain ⟨h0, h4, _⟩ := headFault_zero c
    rw [if_pos c]
    have hl := packHead_length h0 h4 a1 a2 a3 a5
    have hall : ∀ w ∈ [l0, num7 a1, num7 a2, num7 a3, l4, num7 a5], w.length ≤ 200 := by
      intro w hw
      simp only [List.mem_cons, List.not_mem_nil, or_false] at hw
      rcases hw with rfl | rfl | rfl | rfl | rfl | rfl <;> (try simp only [num7_length]) <;> omega
    have hp : packedV [l0, num7 a1, num7 a2, num7 a3, l4, num7 a5] = (packL [l0, num7 a1, num7 a2, num7 a3, l4, num7 a5], true) := by
      unfold packedV
      rw [if_neg (by simp), if_pos ⟨hall, by omega⟩]
    refine ev_pos c (ev_bind (a := [l0, num7 a1, num7 a2, num7 a3, l4]) ?_ (ev_bind (number_ev a5) (ev_pos (by simp) (ev_bind (a := packL [l0, num7 a1, num7 a2, num7 a3, l4, num7 a5]) ?_ (ev_now rfl)))))
    · unfold impl_Head_words.f
      exact ev_bind (number_ev a1) (ev_bind (number_ev a2) (ev_bind (number_ev a3) (ev_now rfl)))
    · unfold impl_pack.f
      refine ev_bind (packed_ev [l0, num7 a1, num7 a2, num7 a3, l4, num7 a5] (fun w hw => by have := hall w hw; omega)) ?_
      rw [hp]
      exact ev_now rfl
  · rw [if_neg c]
    exact ev_neg c (ev_now rfl)
end Go.Proofs.Ytmmhghddldhogaa.S

/- Numbers out of seven bytes: what the program's NumberOf and the reference's come to. For all bytes. -/
set_option linter.unusedVariables false
namespace Go.Proofs.Ytmmhghddldhogaa.S
open Go.RowKit Go.Proofs.YtmmhghddldhogaaW.PrintWords Go.Proofs.YtmmhghddldhogaaW.PrintLast Go.Proofs.YtmmhghddldhogaaW.PrintMore Go.Proofs.Ytmmhghddldhogaa.Base

def numV (l : List Int) : Int := l.foldl (fun x b => x * 256 + b) 0
theorem numOf_l0 (l : List Int) (hb : Byt l) (hl : l.length = 7) : ∀ (d i : Nat) (x : Int), i + d = 7 → 0 ≤ x → x < 256 ^ i → Ev (fun k => impl_NumberOf.l0 k x l (l.length : Int) (i : Int)) (0, (l.drop i).foldl (fun x b => x * 256 + b) x) ∧ Ev (fun k => spec_l1Number.l0 k l x (i : Int)) ((l.drop i).foldl (fun x b => x * 256 + b) x) := by
  intro d
  induction d with
  | zero =>
    intro i x hi h0 h1
    rw [List.drop_of_length_le (by omega)]
    exact ⟨ev_step (fun k => impl_NumberOf.l0.eq_2 _ _ _ _ _) (ev_neg (by omega) (ev_now rfl)), ev_step (fun k => spec_l1Number.l0.eq_2 _ _ _ _) (ev_neg (by omega) (ev_now rfl))⟩
  | succ d ih =>
    intro i x hi h0 h1
    have hr := byt_rd hb (i : Int)
    have hp : (256 : Int) ^ i ≤ 281474976710656 := by
      have : i ≤ 6 := by omega
      have : i = 0 ∨ i = 1 ∨ i = 2 ∨ i = 3 ∨ i = 4 ∨ i = 5 ∨ i = 6 := by omega
      rcases this with rfl | rfl | rfl | rfl | rfl | rfl | rfl <;> decide
    obtain ⟨hi', hs⟩ := ih (i + 1) (x * 256 + rd l (i : Int)) (by omega) (by omega) (by rw [Int.pow_succ]; omega)
    have e1 : wrap64 (x * 256) = x * 256 := w64 (by omega) (by omega)
    have e2 : wrap64 (rd l (i : Int)) = rd l (i : Int) := w64 (by omega) (by omega)
    have e4 : wrap64 (x * 256 + rd l (i : Int)) = x * 256 + rd l (i : Int) := w64 (by omega) (by omega)
    have e3 : (l.drop i).foldl (fun x b => x * 256 + b) x = (l.drop (i + 1)).foldl (fun x b => x * 256 + b) (x * 256 + rd l (i : Int)) := by
      rw [List.drop_eq_getElem_cons (show i < l.length by omega), List.foldl_cons, rd_nat l i (by omega)]
    refine ⟨ev_step (fun k => impl_NumberOf.l0.eq_2 _ _ _ _ _) ?_, ev_step (fun k => spec_l1Number.l0.eq_2 _ _ _ _) ?_⟩
    · refine ev_pos (by omega) (ev_pos (by omega) (ev_pos (by omega) ?_))
      rw [e1, e2, or_byte h0 (by omega) hr.1 hr.2, w64s (by omega), e3]
      exact hi'
    · refine ev_pos (by omega) (ev_pos (by omega) ?_)
      rw [e1, e2, e4, w64s (by omega), e3]
      exact hs
def numOfV (l : List Int) : Int × Int := if l.length = 7 then (0, numV l) else (1, 0)
theorem impl_numOf_ev {l : List Int} (hb : Byt l) : Ev (fun k => impl_NumberOf.f k l) (numOfV l) := by
  unfold impl_NumberOf.f numOfV
  by_cases h : l.length = 7
  · rw [if_pos h]
    have := (numOf_l0 l hb h 7 0 0 rfl (by omega) (by decide)).1
    exact ev_pos (by omega) this
  · rw [if_neg h]; exact ev_neg (by omega) (ev_now rfl)
theorem spec_number_ev {l : List Int} (hb : Byt l) (h : l.length = 7) : Ev (fun k => spec_l1Number.f k l) (numV l) := by
  unfold spec_l1Number.f
  exact (numOf_l0 l hb h 7 0 0 rfl (by omega) (by decide)).2
theorem num7_numV {l : List Int} (hb : Byt l) (h : l.length = 7) : num7 (numV l) = l := by
  match l, h with
  | [a, b, c, d, e, f, g], _ =>
    have h1 := hb a (by simp)
    have h2 := hb b (by simp)
    have h3 := hb c (by simp)
    have h4 := hb d (by simp)
    have h5 := hb e (by simp)
    have h6 := hb f (by simp)
    have h7 := hb g (by simp)
    unfold num7 numV
    simp only [List.foldl_cons, List.foldl_nil]
    congr 1
    · omega
    congr 1
    · omega
    congr 1
    · omega
    congr 1
    · omega
    congr 1
    · omega
    congr 1
    · omega
    congr 1
    omega
end Go.Proofs.Ytmmhghddldhogaa.S

/- bytes.Equal: whether two lists of bytes are the same. -/
set_option linter.unusedVariables false
namespace Go.Proofs.Ytmmhghddldhogaa.S
open Go.RowKit Go.Proofs.YtmmhghddldhogaaW.PrintWords Go.Proofs.YtmmhghddldhogaaW.PrintLast Go.Proofs.YtmmhghddldhogaaW.PrintMore Go.Proofs.Ytmmhghddldhogaa.Base
theorem equal_eq {a b : List Int} (ha : Byt a) (hb : Byt b) : bytes_Equal.f a b = some (decide (a = b)) := by
  unfold bytes_Equal.f
  congr 1
  rw [Lib.strOfNums_toList, Lib.strOfNums_toList, Bool.eq_iff_iff, beq_iff_eq, decide_eq_true_iff]
  constructor
  · intro h
    refine strOfNums_inj ha hb ?_
    have h2 := congrArg List.toArray h
    exact h2
  · intro h; rw [h]
end Go.Proofs.Ytmmhghddldhogaa.S

/- Rows of rows of the call's own, no two of which share memory; where in memory they lie; what the laws' marks make of them. No condition beyond those in the statements. -/
set_option linter.unusedVariables false
set_option linter.unusedSimpArgs false
namespace Go.Proofs.Ytmmhghddldhogaa.S
open Go Go.RowKit Go.Proofs.YtmmhghddldhogaaW.PrintWords Go.Proofs.YtmmhghddldhogaaW.PrintLast Go.Proofs.YtmmhghddldhogaaW.PrintMore Go.Proofs.Ytmmhghddldhogaa.Base

def In (lo hi : Nat) : Nat → Prop := fun k => lo ≤ k ∧ k < hi
theorem In_apart {lo hi a b : Nat} (h : hi ≤ a ∨ b ≤ lo) : ∀ k, In lo hi k → ¬ In a b k := fun k h1 h2 => by
  unfold In at h1 h2
  omega
/-- A row that was made lies in the blocks that are new. -/
theorem F_in {α : Type} {d : Kd α} {e base : Nat} {ok : Nat → Prop} {w : World} {v : Value} {xs : List α} (h : d.R e w base ok v xs) : ∃ A c, v = .slice A xs.length c ∧ xs.length ≤ c ∧ Kd.F d w (In base w.heap.size) A xs.length xs := by
  obtain ⟨A, c, rfl⟩ := Kd.R_slice h
  exact ⟨A, c, rfl, (Kd.R_reads' h).2.1, Kd.F_mono (Kd.R_F (Kd.R_bound h)) (fun k hk => ⟨hk.2.1, hk.2.2.1⟩)⟩
theorem F_keptIn {α : Type} {d : Kd α} {w w1 : World} {lo hi a b n : Nat} {A : Option Addr} {xs : List α} (h : Kd.F d w (In lo hi) A n xs) (hk : Kept w w1 (In a b)) (hd : hi ≤ a ∨ b ≤ lo) : Kd.F d w1 (In lo hi) A n xs := Kd.F_kept h hk (In_apart hd)
theorem add_block (ad : Addr) (i : Nat) : (ad.add i).block = ad.block := by
  unfold Addr.add
  split <;> rfl
/-- Rows of bytes, each its own memory, all between lo and hi. -/
def AR (base : Nat) (w : World) (lo hi : Nat) (A : Option Addr) (ls : List (List Int)) : Prop :=
  ls.length ≤ 9223372036854775807 ∧ (ls = [] ∨ ∃ (ad : Addr) (vs : Nat → Value), A = some ad ∧ (lo ≤ ad.block ∧ ad.block < hi) ∧
    (∀ i, (h : i < ls.length) → w.cell? (ad.add i) = some (vs i) ∧ Kd.R (Kd.int .u8) 5 w base (fun k => some k = (vs i).ownBlock) (vs i) ls[i]) ∧
    (∀ i k, i < ls.length → (vs i).ownBlock = some k → (lo ≤ k ∧ k < hi) ∧ k ≠ ad.block) ∧
    (∀ i j k, i < ls.length → j < ls.length → i ≠ j → (vs i).ownBlock = some k → (vs j).ownBlock ≠ some k))
section
variable {base lo hi a b : Nat} {w w1 : World} {A : Option Addr} {ls : List (List Int)}
theorem AR.below (h : AR base w lo hi A ls) (hb : Below w.heap.size w w1) : AR base w1 lo hi A ls := by
  refine ⟨h.1, h.2.imp id ?_⟩
  rintro ⟨ad, vs, hA, hg, hr, hin, hap⟩
  exact ⟨ad, vs, hA, hg, fun i hi => ⟨(hb.cell (World.block_lt_of_cell? w _ (hr i hi).1)).trans (hr i hi).1, Kd.R_below (hr i hi).2 hb⟩, hin, hap⟩
theorem AR.kept (h : AR base w lo hi A ls) (hk : Kept w w1 (In a b)) (hd : hi ≤ a ∨ b ≤ lo) : AR base w1 lo hi A ls := by
  refine ⟨h.1, h.2.imp id ?_⟩
  rintro ⟨ad, vs, hA, hg, hr, hin, hap⟩
  exact ⟨ad, vs, hA, hg, fun i hi => ⟨cell_kept (hr i hi).1 hk (by rw [add_block]; exact In_apart hd _ hg), Kd.R_kept (hr i hi).2 hk (fun k hk2 => In_apart hd k (hin i k hi hk2.symm).1)⟩, hin, hap⟩
theorem AR.foot (h : AR base w lo hi A ls) : Kd.F (Kd.slice 5 (Kd.int .u8)) w (In lo hi) A ls.length ls := fun W' hW => by
  refine ⟨rfl, h.1, fun hp => ?_⟩
  rcases h.2 with rfl | ⟨ad, vs, hA, hg, hr, hin, hap⟩
  · simp at hp
  refine ⟨ad, hA, fun j p hj => ?_⟩
  obtain ⟨hjl, hpj⟩ := List.getElem?_eq_some_iff.1 hj
  obtain ⟨hc, hR⟩ := hr j hjl
  have hR2 : Kd.R (Kd.int .u8) 5 W' base (fun k => some k = (vs j).ownBlock) (vs j) ls[j] := Kd.R_step hR (fun k ho hlt => hW k (hin j k hjl ho.symm).1 hlt)
  rw [hpj] at hR2
  obtain ⟨A', c', hv⟩ := Kd.R_slice hR2
  rw [hv] at hR2
  obtain ⟨_, h2, h3⟩ := Kd.R_reads' hR2
  refine ⟨[vs j], rfl, ⟨A', c', by rw [hv], h2, h3⟩, fun i u hu => ?_⟩
  cases i with
  | zero =>
    have e1 : vs j = u := by simpa using hu
    rw [← e1]
    show W'.cell? (ad.add (j * 1 + 0)) = _
    rw [Nat.mul_one, Nat.add_zero]
    have hb := hW ad.block hg (by have := World.block_lt_of_cell? w _ hc; rwa [add_block] at this)
    rw [← hc]
    unfold World.cell?
    rw [add_block, hb]
  | succ i => simp at hu
/-- A cut of such rows. -/
theorem AR.drop (h : AR base w lo hi A ls) (m c : Nat) (hm : m ≤ ls.length) (hc : ls.length ≤ c) : AR base w lo hi (if c = m then A else A.map (·.add m)) (ls.drop m) := by
  refine ⟨by have := h.1; rw [List.length_drop]; omega, ?_⟩
  rcases h.2 with rfl | ⟨ad, vs, hA, hg, hr, hin, hap⟩
  · exact .inl (by simp)
  by_cases hz : ls.length = m
  · exact .inl (List.drop_of_length_le (by omega))
  refine .inr ⟨ad.add m, fun i => vs (m + i), by rw [if_neg (by omega), hA]; rfl, by rw [add_block]; exact hg, fun i hi => ?_, fun i k hi hk => ?_, fun i j k hi hj hij hk => ?_⟩
  · have hi2 : m + i < ls.length := by rw [List.length_drop] at hi; omega
    obtain ⟨h1, h2⟩ := hr (m + i) hi2
    have ha : (ad.add m).add i = ad.add (m + i) := by
      unfold Addr.add
      by_cases h1 : m = 0 <;> by_cases h2 : i = 0 <;> simp [h1, h2, Nat.add_assoc]
    refine ⟨by rw [ha]; exact h1, ?_⟩
    rw [List.getElem_drop]
    exact h2
  · rw [List.length_drop] at hi
    rw [add_block]
    exact hin (m + i) k (by omega) hk
  · rw [List.length_drop] at hi hj
    exact hap (m + i) (m + j) k (by omega) (by omega) (by omega) hk
theorem AR.take (h : AR base w lo hi A ls) (m : Nat) : AR base w lo hi A (ls.take m) := by
  refine ⟨by have := h.1; rw [List.length_take]; omega, ?_⟩
  rcases h.2 with rfl | ⟨ad, vs, hA, hg, hr, hin, hap⟩
  · exact .inl (by simp)
  refine .inr ⟨ad, vs, hA, hg, fun i hi => ?_, fun i k hi hk => ?_, fun i j k hi hj hij hk => ?_⟩
  · rw [List.length_take] at hi
    rw [List.getElem_take]
    exact hr i (by omega)
  · rw [List.length_take] at hi
    exact hin i k (by omega) hk
  · rw [List.length_take] at hi hj
    exact hap i j k (by omega) (by omega) hij hk
theorem AR.nil (base : Nat) (w : World) (lo hi : Nat) (A : Option Addr) : AR base w lo hi A [] := ⟨by simp, .inl rfl⟩
end
/-- What the printed walks call apart is so. -/
theorem AR_of_S {e base base0 : Nat} {ok : Nat → Prop} {w : World} {v : Value} {ls : List (List Int)} (h : Kd.S (Kd.slice 5 (Kd.int .u8)) e w base0 ok v ls) (hb : base ≤ base0) :
    ∃ A c, v = .slice A ls.length c ∧ ls.length ≤ c ∧ AR base w base0 w.heap.size A ls := by
  have hR := Kd.S_R h
  obtain ⟨A, c, rfl⟩ := Kd.R_slice hR
  obtain ⟨_, hc, hC⟩ := Kd.R_reads' hR
  refine ⟨A, c, rfl, hc, hC.2.1, ?_⟩
  by_cases hz : ls = []
  · exact .inl hz
  have hp : 0 < ls.length := by cases ls with
    | nil => exact absurd rfl hz
    | cons x l => simp
  obtain ⟨f, hf⟩ := h
  obtain ⟨g, cap, hv, hg0, hg1, cells, hcells⟩ := Kd.R_form hR hp
  injection hv with hv1 hv2 hv3
  subst hv1
  have each : ∀ i, (hi : i < ls.length) → ∃ u, w.cell? ⟨g, i, none⟩ = some u ∧ Kd.R (Kd.int .u8) 5 w base0 (fun k => (ok k ∧ k ≠ g) ∧ f k = i) u ls[i] := fun i hi => by
    obtain ⟨cs, hcl, hM, hcc, _⟩ := Kd.R_elem (d := Kd.tag f (Kd.slice 5 (Kd.int .u8))) hf ([], 0) (i : Int) (by omega) (by omega)
    have e1 : ls.zipIdx.getD (i : Int).toNat ([], 0) = (ls[i], i) := by
      rw [Int.toNat_natCast, List.getD_eq_getElem?_getD, Kd.zip_at (List.getElem?_eq_getElem hi)]
      rfl
    rw [e1] at hM
    obtain ⟨u, rfl, hu⟩ := hM
    refine ⟨u, ?_, hu⟩
    have h1 := hcc 0 u rfl
    rw [Int.toNat_natCast] at h1
    have h2 : w.cell? ⟨g, i * 1 + 0, none⟩ = some u := h1
    rwa [Nat.mul_one, Nat.add_zero] at h2
  refine .inr ⟨⟨g, 0, none⟩, fun i => (w.cell? ⟨g, i, none⟩).getD (.bool false), rfl, ⟨hg0, hg1⟩, fun i hi => ?_, fun i k hi hk => ?_, fun i j k hi hj hij hk hk2 => ?_⟩
  · obtain ⟨u, hu, hr⟩ := each i hi
    rw [add_plain]
    simp only [hu, Option.getD_some]
    exact ⟨trivial, Kd.R_lower (Kd.R_tight rfl hr) hb⟩
  · obtain ⟨u, hu, hr⟩ := each i hi
    simp only [hu, Option.getD_some] at hk
    have := (Kd.R_bound hr).1 k hk
    exact ⟨⟨this.2.1, this.2.2.1⟩, this.1.1.2⟩
  · obtain ⟨u, hu, hr⟩ := each i hi
    obtain ⟨u2, hu2, hr2⟩ := each j hj
    simp only [hu, Option.getD_some] at hk
    simp only [hu2, Option.getD_some] at hk2
    have h1 := (hr.1 k hk).2
    have h2 := (hr2.1 k hk2).2
    omega
/-! The marks. -/
def markAll (a : Int) : List (List Int) → List (List Int)
  | [] => []
  | l :: r => marked a l.length :: markAll (a + (l.length : Int)) r
theorem markAll_length : ∀ (ls : List (List Int)) (a : Int), (markAll a ls).length = ls.length
  | [], _ => rfl
  | l :: r, a => by simp [markAll, markAll_length r]
/-- Where row i's marks begin. -/
def offs (ls : List (List Int)) (i : Nat) : Nat := (ls.take i).flatten.length
theorem offs_step (ls : List (List Int)) (i : Nat) (h : i < ls.length) : offs ls (i + 1) = offs ls i + ls[i].length := by
  unfold offs
  rw [List.take_succ_eq_append_getElem h, List.flatten_append, List.length_append]
  simp
theorem offs_le (ls : List (List Int)) (i : Nat) : offs ls i ≤ ls.flatten.length := by
  unfold offs
  have h := congrArg List.length (congrArg List.flatten (List.take_append_drop i ls))
  rw [List.flatten_append, List.length_append] at h
  omega
theorem markAll_get : ∀ (ls : List (List Int)) (a : Int) (i : Nat) (h : i < ls.length), (markAll a ls)[i]? = some (marked (a + (offs ls i : Int)) ls[i].length)
  | [], _, i, h => by simp at h
  | l :: r, a, 0, h => by simp [markAll, offs]
  | l :: r, a, i + 1, h => by
    have h2 : i < r.length := by simpa using h
    have e : offs (l :: r) (i + 1) = l.length + offs r i := by simp [offs]
    show (markAll (a + (l.length : Int)) r)[i]? = _
    rw [markAll_get r (a + (l.length : Int)) i h2, e]
    simp only [List.getElem_cons_succ]
    rw [show a + (l.length : Int) + (offs r i : Int) = a + ((l.length + offs r i : Nat) : Int) by omega]
def midSS (a : Int) (ls : List (List Int)) (i : Nat) : List (List Int) := (markAll a ls).take i ++ ls.drop i
theorem midSS_length (a : Int) (ls : List (List Int)) (i : Nat) (h : i ≤ ls.length) : (midSS a ls i).length = ls.length := by
  simp [midSS, markAll_length]
  omega
theorem midSS_get (a : Int) (ls : List (List Int)) (i : Nat) (h : i < ls.length) : (midSS a ls i)[i]? = some ls[i] := by
  have hl : ((markAll a ls).take i).length = i := by rw [List.length_take, markAll_length]; omega
  unfold midSS
  rw [List.getElem?_append_right (by omega), hl, Nat.sub_self, List.getElem?_drop]
  simp [h]
theorem midSS_step (a : Int) (ls : List (List Int)) (i : Nat) (h : i < ls.length) : (midSS a ls i).set i (marked (a + (offs ls i : Int)) ls[i].length) = midSS a ls (i + 1) := by
  have hl : ((markAll a ls).take i).length = i := by rw [List.length_take, markAll_length]; omega
  have hg := markAll_get ls a i h
  have hlt : i < (markAll a ls).length := by rw [markAll_length]; exact h
  rw [List.getElem?_eq_getElem hlt] at hg
  have hg := Option.some.inj hg
  unfold midSS
  rw [List.set_append_right _ _ (by omega), hl, Nat.sub_self, List.drop_eq_getElem_cons h, List.set_cons_zero, List.take_succ_eq_append_getElem hlt, hg, List.append_assoc]
  rfl
theorem midSS_all (a : Int) (ls : List (List Int)) : midSS a ls ls.length = markAll a ls := by
  unfold midSS
  rw [List.take_of_length_le (by rw [markAll_length]; exact Nat.le_refl _), List.drop_of_length_le (Nat.le_refl _), List.append_nil]
/-- One row is written. -/
theorem AR.put {base lo hi : Nat} {w w1 : World} {ad : Addr} {vs : Nat → Value} {ls : List (List Int)} {i : Nat} {l2 : List Int} (hlen : ls.length ≤ 9223372036854775807) (hg : lo ≤ ad.block ∧ ad.block < hi)
    (hr : ∀ i, (h : i < ls.length) → w.cell? (ad.add i) = some (vs i) ∧ Kd.R (Kd.int .u8) 5 w base (fun k => some k = (vs i).ownBlock) (vs i) ls[i])
    (hin : ∀ i k, i < ls.length → (vs i).ownBlock = some k → (lo ≤ k ∧ k < hi) ∧ k ≠ ad.block)
    (hap : ∀ i j k, i < ls.length → j < ls.length → i ≠ j → (vs i).ownBlock = some k → (vs j).ownBlock ≠ some k)
    (hi_ : i < ls.length) (h2 : Kd.R (Kd.int .u8) 5 w1 base (fun k => some k = (vs i).ownBlock) (vs i) l2) (hk : Kept w w1 (fun k => some k = (vs i).ownBlock)) :
    (∀ j, (h : j < (ls.set i l2).length) → w1.cell? (ad.add j) = some (vs j) ∧ Kd.R (Kd.int .u8) 5 w1 base (fun k => some k = (vs j).ownBlock) (vs j) (ls.set i l2)[j]) := by
  intro j hj
  have hj2 : j < ls.length := by simpa using hj
  obtain ⟨hc, hR⟩ := hr j hj2
  refine ⟨cell_kept hc hk (by rw [add_block]; exact fun e => (hin i _ hi_ e.symm).2 rfl), ?_⟩
  rw [List.getElem_set]
  split
  · rename_i e
    subst e
    exact h2
  · rename_i e
    exact Kd.R_kept hR hk (fun k hk1 hk2 => hap i j k hi_ hj2 e hk2.symm hk1.symm)
end Go.Proofs.Ytmmhghddldhogaa.S
namespace Go.Proofs.Ytmmhghddldhogaa.S
open Go Go.RowKit Go.Proofs.YtmmhghddldhogaaW.PrintWords Go.Proofs.YtmmhghddldhogaaW.PrintLast Go.Proofs.YtmmhghddldhogaaW.PrintMore Go.Proofs.Ytmmhghddldhogaa.Base
/-- Where a walk stands still: its goal under a word. -/
def Hold (p : Prop) : Prop := p
theorem hold_here {p : Prop} (h : Hold p) : p := h
theorem hold_go {p : Prop} (h : p) : Hold p := h
theorem AR.drewN {base lo hi : Nat} {w : World} {A : Option Addr} {ls : List (List Int)} (h : AR base w lo hi A ls) (n : Nat) : AR base (w.drewN n) lo hi A ls := h.below (pw_below_drewN (Below.refl _ _) n)
theorem AR.drew {base lo hi : Nat} {w : World} {A : Option Addr} {ls : List (List Int)} (h : AR base w lo hi A ls) : AR base w.drew lo hi A ls := h.below (below_drew1 (Below.refl _ _))
theorem AR.alloc {base lo hi : Nat} {w : World} {A : Option Addr} {ls : List (List Int)} (h : AR base w lo hi A ls) (o : Obj) : AR base (w.alloc o) lo hi A ls := h.below (below_alloc (Below.refl _ _) o)
/-- A row of bytes of the call's own, between lo and hi. -/
theorem B_of_R {e base base0 : Nat} {ok : Nat → Prop} {w : World} {v : Value} {xs : List Int} (h : Kd.R (Kd.int .u8) e w base0 ok v xs) (hb : base ≤ base0) :
    ∃ A c, v = .slice A xs.length c ∧ Kd.R (Kd.int .u8) e w base (In base0 w.heap.size) (.slice A xs.length c) xs := by
  obtain ⟨A, c, rfl⟩ := Kd.R_slice h
  exact ⟨A, c, rfl, Kd.R_lower (Kd.R_mono (Kd.R_bound h) (fun k hk => ⟨hk.2.1, hk.2.2.1⟩)) hb⟩
theorem B_kept {e base lo hi a b : Nat} {w w1 : World} {v : Value} {xs : List Int} (h : Kd.R (Kd.int .u8) e w base (In lo hi) v xs) (hk : Kept w w1 (In a b)) (hd : hi ≤ a ∨ b ≤ lo) : Kd.R (Kd.int .u8) e w1 base (In lo hi) v xs := Kd.R_kept h hk (In_apart hd)
theorem B_tight {e base lo hi : Nat} {ok : Nat → Prop} {w w0 : World} {v : Value} {xs ys : List Int} (h0 : Kd.R (Kd.int .u8) e w0 base (In lo hi) v ys) (h : Kd.R (Kd.int .u8) e w base ok v xs) : Kd.R (Kd.int .u8) e w base (In lo hi) v xs := Kd.R_mono (Kd.R_tight rfl h) (fun k hk => h0.1 k hk.symm)
theorem blk_keptIn {g a b : Nat} {w w1 : World} {o : Obj} (h : w.heap[g]? = some o) (hk : Kept w w1 (In a b)) (hd : g < a ∨ b ≤ g) : w1.heap[g]? = some o := blk_kept h hk (fun h2 => by unfold In at h2; omega)
theorem row_store {P : Program} {ops : Array Oper} {rest : List Oper} {o : Oper} {a : Act} {w w0 : World} {B : Nat} {Q : Exit → Act → World → Prop} (hgd : o.guard = none) (ty : TypeId) (x y : Operand) (ho : o.op = .store ty x y)
    (g : Nat) (cells : Array Value) (hx : a.eval x = .pointer (some ⟨g, 0, none⟩)) (hy : a.eval y = .agg cells)
    (t : TypeId) (old : Array Value) (hg : w.heap[g]? = some (.cells old t (0, 0))) (hi : (P.info? ty).map (·.size) = some cells.size)
    (hold : old.size = cells.size) (h1 : cells.all (·.oneCell') = true) (hd : o.dst = none) (hb : Below B w0 w) (hB : B ≤ g)
    (h : ∀ w1 : World, w1.heap[g]? = some (.cells cells t (0, 0)) → Kept w w1 (In g (g + 1)) → Below B w0 w1 → wpList P ops Q rest a w1) : wpList P ops Q (o :: rest) a w := by
  refine wpList_store_row hgd ty x y ho g cells hx hy t old hg hi hold h1 ?_
  rw [hd]
  exact h _ (setRow_heap w g old cells t (0, 0) hg) ⟨by simp [World.setRow], fun k hk hn => setRow_other w g k cells (fun e => hn (by subst e; exact ⟨Nat.le_refl _, Nat.lt_succ_self _⟩))⟩ (below_setRow hb hB cells)
end Go.Proofs.Ytmmhghddldhogaa.S

/- Steps of regions that draw their order: a box made, a struct stored, a whole array loaded; words that are read. No condition beyond those in the statements. -/
set_option linter.unusedVariables false
set_option linter.unusedSimpArgs false
namespace Go.Proofs.Ytmmhghddldhogaa.S
open Go Go.RowKit Go.Proofs.YtmmhghddldhogaaW.PrintWords Go.Proofs.YtmmhghddldhogaaW.PrintLast Go.Proofs.YtmmhghddldhogaaW.PrintMore Go.Proofs.Ytmmhghddldhogaa.Base

theorem box_stepK {P : Program} {ops : Array Oper} {Q : Exit → Act → World → Prop} {oi : Oper} {N : Option Tmp} {a : Act} {W : World} {K : Act → World → Prop} {cs : Array Value} {t : TypeId} (hw : Region.wanted oi (yielded ops a.tmps) = true) (hN : oi.dst = N)
    (hrun : (execOp a.eval oi).run P W = .ok (.value (.pointer (some ⟨W.heap.size, 0, none⟩))) (W.alloc (.cells cs t (0, 0))))
    (h : ∀ g, g = W.heap.size → ∀ w1, w1.heap[g]? = some (.cells cs t (0, 0)) → Below W.heap.size W w1 → K (a.put N (.pointer (some ⟨g, 0, none⟩))) w1) : if Region.wanted oi (yielded ops a.tmps) = true then Oper.wp P oi a W K Q else K (a.put N undef) W :=
  value_ hw hN hrun (h _ rfl _ (blk_new W _) (below_alloc (Below.refl _ _) _))
theorem row_stepK {P : Program} {ops : Array Oper} {Q : Exit → Act → World → Prop} {o : Oper} {a : Act} {w w0 : World} {B : Nat} {K : Act → World → Prop} (hw : Region.wanted o (yielded ops a.tmps) = true) (ty : TypeId) (x y : Operand) (ho : o.op = .store ty x y)
    (g : Nat) (cells : Array Value) (hx : a.eval x = .pointer (some ⟨g, 0, none⟩)) (hy : a.eval y = .agg cells)
    (t : TypeId) (old : Array Value) (hg : w.heap[g]? = some (.cells old t (0, 0))) (hi : (P.info? ty).map (·.size) = some cells.size)
    (hold : old.size = cells.size) (h1 : cells.all (·.oneCell') = true) (hd : o.dst = none) (hb : Below B w0 w) (hB : B ≤ g)
    (h : ∀ w1 : World, w1.heap[g]? = some (.cells cells t (0, 0)) → Kept w w1 (In g (g + 1)) → Below B w0 w1 → K a w1) : if Region.wanted o (yielded ops a.tmps) = true then Oper.wp P o a w K Q else K (a.put none undef) w := by
  rw [if_pos hw]
  refine wp_store_row ty x y ho g cells hx hy t old hg hi hold h1 ?_
  rw [hd]
  exact h _ (setRow_heap w g old cells t (0, 0) hg) ⟨by simp [World.setRow], fun k hk hn => setRow_other w g k cells (fun e => hn (by subst e; exact ⟨Nat.le_refl _, Nat.lt_succ_self _⟩))⟩ (below_setRow hb hB cells)
theorem load_row_runK {P : Program} {o : Oper} {a : Act} (ty : TypeId) (x : Operand) (ho : o.op = .load ty x) (g : Nat) (hx : a.eval x = .pointer (some ⟨g, 0, none⟩)) {w : World} (t : TypeId) (cs : Array Value) (fr : Nat × Nat) (d : TypeDesc) (hg : w.heap[g]? = some (.cells cs t fr))
    (hu : P.underlying ty = some d) (hd : (match d with | .struct _ | .array _ _ => true | _ => false) = true) (hi : (P.info? ty).map (·.size) = some cs.size) : (execOp a.eval o).run P w = .ok (.value (.agg cs)) w := by
  unfold execOp
  simp only [ho, hx, Instr.loadAt, Instr.sureAddr, Sem.run_bind, Sem.run_pure, Result.andThen_ok, run_loadVar_row w g t ty cs fr d hg hu hd hi]
theorem word_at {w : World} {A : Option Addr} {ls : List (List Int)} (h : Kd.C (Kd.slice 5 (Kd.int .u8)) w A ls.length ls) (i : Nat) (hi : i < ls.length) : ∃ ad A0 c0, A = some ad ∧ w.cell? (ad.add i) = some (.slice A0 (ls[i]!).length c0) ∧ (ls[i]!).length ≤ c0 ∧ (Kd.int .u8).C w A0 (ls[i]!).length (ls[i]!) := by
  rw [getElem!_pos ls i hi]
  obtain ⟨ad, c, e, _, hK, hc0⟩ := Kd.C_get h ([] : List Int) (i : Int) (by omega) (by omega)
  have hc : ∀ j u, c[j]? = some u → w.cell? (ad.add (i * 1 + j)) = some u := hc0
  rw [Int.toNat_natCast, List.getD_eq_getElem?_getD, List.getElem?_eq_getElem hi, Option.getD_some] at hK
  obtain ⟨A0, c0, rfl, l0, g0⟩ := hK
  exact ⟨ad, A0, c0, e, by have hq := hc 0 _ rfl; rwa [Nat.mul_one, Nat.add_zero] at hq, l0, g0⟩
theorem byte_at {w : World} {A : Option Addr} {n : Nat} {x : Int} (h : (Kd.int .u8).C w A n [x]) : ∃ ad, A = some ad ∧ w.cell? ad = some (.int .u8 x) := by
  have hn : n = 1 := h.1.symm
  subst hn
  obtain ⟨ad, e, hc⟩ := Kd.at_int h 0 (by omega) (by omega)
  exact ⟨ad, e, by have h2 : w.cell? (ad.add 0) = _ := hc; rw [Addr.add_zero'] at h2; exact h2⟩
theorem AR.grow {base lo hi lo2 hi2 : Nat} {w : World} {A : Option Addr} {ls : List (List Int)} (h : AR base w lo hi A ls) (ha : lo2 ≤ lo) (hb : hi ≤ hi2) : AR base w lo2 hi2 A ls := by
  refine ⟨h.1, h.2.imp id ?_⟩
  rintro ⟨ad, vs, hA, hg, hr, hin, hap⟩
  exact ⟨ad, vs, hA, ⟨by omega, by omega⟩, hr, fun i k hi hk => ⟨⟨by have := (hin i k hi hk).1; omega, by have := (hin i k hi hk).1; omega⟩, (hin i k hi hk).2⟩, hap⟩
theorem below_keptIn {w W0 W W1 : World} {n a b : Nat} (h : Below W0.heap.size W0 W) (hk : Kept W W1 (In a b)) (ha : W0.heap.size ≤ a) (e1 : Below n w W) (e2 : Below n w W1) : Below W0.heap.size W0 W1 :=
  ⟨e2.os.trans (e1.os.symm.trans h.os), e2.tape.trans (e1.tape.symm.trans h.tape), e2.output.trans (e1.output.symm.trans h.output), Nat.le_trans h.size hk.1, fun k hk2 => (hk.2 k (Nat.lt_of_lt_of_le hk2 h.size) (fun h3 => by unfold In at h3; omega)).trans (h.block k hk2)⟩
theorem AR.lower {base base2 lo hi : Nat} {w : World} {A : Option Addr} {ls : List (List Int)} (h : AR base w lo hi A ls) (hb : base2 ≤ base) : AR base2 w lo hi A ls := by
  refine ⟨h.1, h.2.imp id ?_⟩
  rintro ⟨ad, vs, hA, hg, hr, hin, hap⟩
  exact ⟨ad, vs, hA, hg, fun i hi => ⟨(hr i hi).1, Kd.R_lower (hr i hi).2 hb⟩, hin, hap⟩
end Go.Proofs.Ytmmhghddldhogaa.S

/- Six words that were made: their places, what they hold, that two of them are apart. No condition beyond those in the statements. -/
set_option linter.unusedVariables false
set_option linter.unusedSimpArgs false
namespace Go.Proofs.Ytmmhghddldhogaa.S
open Go Go.RowKit Go.Proofs.YtmmhghddldhogaaW.PrintWords Go.Proofs.YtmmhghddldhogaaW.PrintLast Go.Proofs.YtmmhghddldhogaaW.PrintMore Go.Proofs.Ytmmhghddldhogaa.Base

def WordIs (w : World) (g i : Nat) (B : Option Addr) (d : Nat) (l : List Int) : Prop := w.cell? ⟨g, i, none⟩ = some (.slice B l.length d) ∧ l.length ≤ d ∧ (Kd.int .u8).C w B l.length l
theorem head_words {e base base0 : Nat} {ok : Nat → Prop} {w : World} {v : Value} {w0 w1 w2 w3 w4 w5 : List Int} (h : Kd.S (Kd.slice 5 (Kd.int .u8)) e w base0 ok v [w0, w1, w2, w3, w4, w5]) (hb : base ≤ base0) :
    ∃ g c B0 B1 B2 B3 B4 B5 d0 d1 d2 d3 d4 d5, v = .slice (some ⟨g, 0, none⟩) 6 c ∧ 6 ≤ c ∧ WordIs w g 0 B0 d0 w0 ∧ WordIs w g 1 B1 d1 w1 ∧ WordIs w g 2 B2 d2 w2 ∧ WordIs w g 3 B3 d3 w3 ∧ WordIs w g 4 B4 d4 w4 ∧ WordIs w g 5 B5 d5 w5 ∧
      Kd.R (Kd.int .u8) 5 w base (In base0 w.heap.size) (.slice B0 w0.length d0) w0 ∧ Kd.R (Kd.int .u8) 5 w base (In base0 w.heap.size) (.slice B4 w4.length d4) w4 ∧
      (∀ k, (.slice B0 w0.length d0 : Value).ownBlock = some k → (.slice B4 w4.length d4 : Value).ownBlock ≠ some k) := by
  obtain ⟨g, c, hv, _, _⟩ := Kd.S_form h (by simp)
  obtain ⟨A, c2, hv2, hc, hA⟩ := AR_of_S (base := base) h hb
  rw [hv] at hv2
  injection hv2 with e1 e2 e3
  subst e1 e3
  rcases hA.2 with h0 | ⟨ad, vs, e4, hg, hr, hin, hap⟩
  · cases h0
  obtain rfl := Option.some.inj e4
  have each : ∀ i, (hi : i < [w0, w1, w2, w3, w4, w5].length) → ∃ B d, vs i = .slice B ([w0, w1, w2, w3, w4, w5][i]).length d ∧ WordIs w g i B d ([w0, w1, w2, w3, w4, w5][i]) := fun i hi => by
    obtain ⟨hc1, hR⟩ := hr i hi
    obtain ⟨B, d, hvi⟩ := Kd.R_slice hR
    rw [hvi] at hR
    obtain ⟨_, h2, h3⟩ := Kd.R_reads' hR
    refine ⟨B, d, hvi, ?_, h2, h3⟩
    have e2 : (⟨g, 0, none⟩ : Addr).add i = ⟨g, i, none⟩ := by unfold Addr.add; split <;> simp_all
    rw [e2, hvi] at hc1
    exact hc1
  obtain ⟨B0, d0, v0, h0⟩ := each 0 (by simp)
  obtain ⟨B1, d1, v1, h1⟩ := each 1 (by simp)
  obtain ⟨B2, d2, v2, h2⟩ := each 2 (by simp)
  obtain ⟨B3, d3, v3, h3⟩ := each 3 (by simp)
  obtain ⟨B4, d4, v4, h4⟩ := each 4 (by simp)
  obtain ⟨B5, d5, v5, h5⟩ := each 5 (by simp)
  have r0 := (hr 0 (by simp)).2
  have r4 := (hr 4 (by simp)).2
  have i0 := hin 0
  have i4 := hin 4
  have a04 := fun k => hap 0 4 k (by simp) (by simp) (by decide)
  rw [v0] at r0 i0
  rw [v4] at r4 i4
  simp only [v0, v4] at a04
  exact ⟨g, c, B0, B1, B2, B3, B4, B5, d0, d1, d2, d3, d4, d5, hv, hc, h0, h1, h2, h3, h4, h5, Kd.R_mono r0 (fun k hk => (i0 k (by simp) hk.symm).1), Kd.R_mono r4 (fun k hk => (i4 k (by simp) hk.symm).1), a04⟩
end Go.Proofs.Ytmmhghddldhogaa.S

/- The walk over impl.UnpackHead: what it answers, way by way. No condition beyond those in the statements. -/
set_option linter.unusedVariables false
set_option linter.unusedSimpArgs false
namespace Go.Proofs.Ytmmhghddldhogaa.S
open Go Go.RowKit Go.Proofs.YtmmhghddldhogaaW.PrintWords Go.Proofs.YtmmhghddldhogaaW.PrintLast Go.Proofs.YtmmhghddldhogaaW.PrintMore Go.Proofs.Ytmmhghddldhogaa.Base
attribute [local go_sem] max2_int min2_int max_two min_two max_three min_three max_four min_four

set_option maxHeartbeats 80000000 in
set_option maxRecDepth 100000 in
theorem impl_UnpackHead_A (ku : Nat) (A0 : Option Addr) (c0 : Nat) (l0 : List Int) (q0 q1 : Int) (W : List (List Int)) (w : World) (hr0 : Kd.C (Kd.int .u8) w A0 l0.length l0) (hc0 : l0.length ≤ c0) (h_u : impl_UnpackWords.f ku l0 = some (q0, q1, W)) (h_n : W.length ≠ 6) :
    Calls Try.prog 69 #[.slice A0 l0.length c0] w fun e w' => ∃ v u : Value, e = .returned (.agg #[.int .i64 5, v, .int .i64 0, .int .i64 0, .int .i64 0, u, .int .i64 0]) ∧ Kd.R (Kd.int .u8) 5 w' w.heap.size (fun k_ => some k_ ≠ (u : Value).ownBlock) v ([] : List Int) ∧ Kd.R (Kd.int .u8) 5 w' w.heap.size (fun k_ => some k_ ≠ (v : Value).ownBlock) u ([] : List Int) ∧ Below w.heap.size w w' := by
  have hu0_ := Try.underlying81
  have hu1_ := Try.underlying33
  have hu2_ := Try.underlying50
  have hu3_ := Try.underlying24
  have hu4_ := Try.underlying46
  have HR0 := Aside0.mk hr0
  have HC0 := Aside0.mk hc0
  have H_u := Aside0.mk h_u
  have H_n := Aside0.mk h_n
  have HB := Aside0.mk (Below.refl w.heap.size w)
  have ZZ := Aside0.mk (Nat.le_refl w.heap.size)
  have hfd_2 := fun (a0 a1 a2 : Value) (w : World) => (show (Instr.field 50 (.agg #[a0, a1, a2]) 2).run Try.prog w = .ok a2 w from by kernel_rfl)
  have hfe_1 := fun (a0 a1 : Value) (w : World) => (show (Instr.field 46 (.agg #[a0, a1]) 1).run Try.prog w = .ok a1 w from by kernel_rfl)
  have cn0_ : ((W.length : Int) != 6) = true := bne_iff_ne.2 (by omega)
  have cn1_ : ((W.length : Int) == 6) = false := beq_eq_false_iff_ne.2 (by omega)
  clear hr0 hc0 h_u h_n
  go_enter Try.func69, Try.ntmps69
  go_wp2_with (first | ((with_reducible refine gate_dst (N := 2) rfl ?_); refine hold_here ?_))
  refine hold_go ?_
  refine box_event (N := 2) (cs := #[.int .i64 0, .slice none 0 0, .int .i64 0, .int .i64 0, .int .i64 0, .slice none 0 0, .int .i64 0]) (t := 81) ?hgb rfl ?hrb ?_
  case hgb => rfl
  case hrb => first | (go_simp; done) | (go_simp; rfl)
  intro g2_ hg w1_ hbox hb
  replace HB := Aside0.mk (below_step HB.out hb)
  replace ZZ := Aside0.mk (And.intro ZZ.out (show w.heap.size ≤ w1_.heap.size from hb.size))
  have BK2 := Aside0.mk hbox
  replace ZZ := Aside0.mk (And.intro ZZ.out (And.intro (show g2_ = w.heap.size from hg) (show g2_ < w1_.heap.size from blk_lt hbox)))
  clear hb hbox hg
  go_wp2_with (first | (go_at_call 38; refine hold_here ?_))
  refine hold_go ?_
  refine (impl_UnpackWords.calls _ A0 c0 l0 q0 q1 W _ ?s1 ?s2 H_u.out).mono ?_
  case s1 => exact Kd.C_below HR0.out HB.out
  case s2 => exact HC0.out
  rintro e w2_ ⟨v, rfl, ho, hb⟩
  replace BK2 := Aside0.mk (blk_below BK2.out hb)
  replace HB := Aside0.mk (below_step HB.out hb)
  replace ZZ := Aside0.mk (And.intro ZZ.out (show w1_.heap.size ≤ w2_.heap.size from hb.size))
  obtain ⟨A_WS, c_WS, ev_, hc_WS, hA_WS⟩ := AR_of_S (base := w.heap.size) ho (show w.heap.size ≤ w1_.heap.size from (by have h_ := ZZ.out; omega))
  subst ev_
  have HC_WS := Aside0.mk hc_WS
  have WS := Aside0.mk (show AR w.heap.size w2_ w1_.heap.size w2_.heap.size A_WS W from hA_WS)
  clear hc_WS hA_WS ho
  clear hb
  go_wp2_with (first | ((with_reducible refine gate_store (t := 81) (p := 2) (v := .tmp 12) rfl ?_); refine hold_here ?_))
  refine hold_go ?_
  refine row_store rfl 81 (.tmp 2) (.tmp 12) rfl g2_ #[.int .i64 5, .slice none 0 0, .int .i64 0, .int .i64 0, .int .i64 0, .slice none 0 0, .int .i64 0] rfl ?hy 81 _ BK2.out ?hi ?ho ?h1 rfl HB.out (show w.heap.size ≤ g2_ from (by have h_ := ZZ.out; omega)) ?_
  case hy => rfl
  case hi => kernel_rfl
  case ho => rfl
  case h1 => first | rfl | (simp [Value.oneCell']; done) | (go_simp; done)
  intro w3_ bo hk hb2
  clear BK2
  replace WS := Aside0.mk (AR.kept WS.out hk (by have h_ := ZZ.out; omega))
  replace HB := Aside0.mk hb2
  replace ZZ := Aside0.mk (And.intro ZZ.out (show w2_.heap.size ≤ w3_.heap.size from hk.1))
  have BK2 := Aside0.mk bo
  clear bo hk hb2
  go_wp2
  refine bodyPost_ret (results_cell_row rfl _ _ g2_ 81 #[.int .i64 5, .slice none 0 0, .int .i64 0, .int .i64 0, .int .i64 0, .slice none 0 0, .int .i64 0] (0, 0) _ rfl BK2.out Try.underlying81 rfl (by kernel_rfl)) rfl ?_
  exact ⟨_, _, rfl, Kd.R_nil _ _ _ _ _, Kd.R_nil _ _ _ _ _, HB.out⟩
set_option maxHeartbeats 80000000 in
set_option maxRecDepth 100000 in
theorem impl_UnpackHead_D (ku : Nat) (A0 : Option Addr) (c0 : Nat) (l0 : List Int) (q0 q1 : Int) (v0 v1 v2 v3 v4 v5 : List Int) (n1 n2 n3 n5 : Int) (e1 e2 e3 e5 : Int) (k1 k2 k3 k5 kp : Nat) (pc : Int) (pb : List Int) (w : World) (hr0 : Kd.C (Kd.int .u8) w A0 l0.length l0) (hc0 : l0.length ≤ c0) (h_u : impl_UnpackWords.f ku l0 = some (q0, q1, [v0, v1, v2, v3, v4, v5])) (h_n1 : impl_NumberOf.f k1 v1 = some (e1, n1)) (h_n2 : impl_NumberOf.f k2 v2 = some (e2, n2)) (h_n3 : impl_NumberOf.f k3 v3 = some (e3, n3)) (h_n5 : impl_NumberOf.f k5 v5 = some (e5, n5)) (h_p : impl_PackHead.f kp v0 n1 n2 n3 v4 n5 = some (pc, pb)) (h_e : bytes_Equal.f pb l0 = some (decide (pb = l0))) :
    Calls Try.prog 69 #[.slice A0 l0.length c0] w fun e w' => ∃ v u : Value, e = .returned (.agg #[.int .i64 (if pc = 0 ∧ pb = l0 then 0 else 5), v, .int .i64 (if pc = 0 ∧ pb = l0 then n1 else 0), .int .i64 (if pc = 0 ∧ pb = l0 then n2 else 0), .int .i64 (if pc = 0 ∧ pb = l0 then n3 else 0), u, .int .i64 (if pc = 0 ∧ pb = l0 then n5 else 0)]) ∧ Kd.R (Kd.int .u8) 5 w' w.heap.size (fun k_ => some k_ ≠ (u : Value).ownBlock) v (if pc = 0 ∧ pb = l0 then v0 else []) ∧ Kd.R (Kd.int .u8) 5 w' w.heap.size (fun k_ => some k_ ≠ (v : Value).ownBlock) u (if pc = 0 ∧ pb = l0 then v4 else []) ∧ Below w.heap.size w w' := by
  have hu0_ := Try.underlying81
  have hu1_ := Try.underlying33
  have hu2_ := Try.underlying50
  have hu3_ := Try.underlying24
  have hu4_ := Try.underlying46
  have HR0 := Aside0.mk hr0
  have HC0 := Aside0.mk hc0
  have H_u := Aside0.mk h_u
  have H_n1 := Aside0.mk h_n1
  have H_n2 := Aside0.mk h_n2
  have H_n3 := Aside0.mk h_n3
  have H_n5 := Aside0.mk h_n5
  have H_p := Aside0.mk h_p
  have H_e := Aside0.mk h_e
  have HB := Aside0.mk (Below.refl w.heap.size w)
  have ZZ := Aside0.mk (Nat.le_refl w.heap.size)
  have hfd_2 := fun (a0 a1 a2 : Value) (w : World) => (show (Instr.field 50 (.agg #[a0, a1, a2]) 2).run Try.prog w = .ok a2 w from by kernel_rfl)
  have hfe_1 := fun (a0 a1 : Value) (w : World) => (show (Instr.field 46 (.agg #[a0, a1]) 1).run Try.prog w = .ok a1 w from by kernel_rfl)
  clear hr0 hc0 h_u h_n1 h_n2 h_n3 h_n5 h_p h_e
  go_enter Try.func69, Try.ntmps69
  go_wp2_with (first | ((with_reducible refine gate_dst (N := 2) rfl ?_); refine hold_here ?_))
  refine hold_go ?_
  refine box_event (N := 2) (cs := #[.int .i64 0, .slice none 0 0, .int .i64 0, .int .i64 0, .int .i64 0, .slice none 0 0, .int .i64 0]) (t := 81) ?hgb rfl ?hrb ?_
  case hgb => rfl
  case hrb => first | (go_simp; done) | (go_simp; rfl)
  intro g2_ hg w1_ hbox hb
  replace HB := Aside0.mk (below_step HB.out hb)
  replace ZZ := Aside0.mk (And.intro ZZ.out (show w.heap.size ≤ w1_.heap.size from hb.size))
  have BK2 := Aside0.mk hbox
  replace ZZ := Aside0.mk (And.intro ZZ.out (And.intro (show g2_ = w.heap.size from hg) (show g2_ < w1_.heap.size from blk_lt hbox)))
  clear hb hbox hg
  go_wp2_with (first | (go_at_call 38; refine hold_here ?_))
  refine hold_go ?_
  refine (impl_UnpackWords.calls _ A0 c0 l0 q0 q1 [v0, v1, v2, v3, v4, v5] _ ?s1 ?s2 H_u.out).mono ?_
  case s1 => exact Kd.C_below HR0.out HB.out
  case s2 => exact HC0.out
  rintro e w2_ ⟨v, rfl, ho, hb⟩
  replace BK2 := Aside0.mk (blk_below BK2.out hb)
  replace HB := Aside0.mk (below_step HB.out hb)
  replace ZZ := Aside0.mk (And.intro ZZ.out (show w1_.heap.size ≤ w2_.heap.size from hb.size))
  obtain ⟨gw_, cw_, B0_, B1_, B2_, B3_, B4_, B5_, d0_, d1_, d2_, d3_, d4_, d5_, ev_, hcw_, hw0_, hw1_, hw2_, hw3_, hw4_, hw5_, hPA_, hRO_, hap_⟩ := head_words (base := w.heap.size) ho (by have h_ := ZZ.out; omega)
  subst ev_
  have PA := Aside0.mk hPA_
  have RO := Aside0.mk hRO_
  have HAP := Aside0.mk hap_
  have HCW := Aside0.mk hcw_
  have HW0 := Aside0.mk hw0_
  have HW1 := Aside0.mk hw1_
  have HW2 := Aside0.mk hw2_
  have HW3 := Aside0.mk hw3_
  have HW4 := Aside0.mk hw4_
  have HW5 := Aside0.mk hw5_
  clear hPA_ hRO_ hap_ hcw_ ho hw0_ hw1_ hw2_ hw3_ hw4_ hw5_
  clear hb
  try go_wp2_with fail
  replace BK2 := Aside0.mk (blk_drew BK2.out)
  replace PA := Aside0.mk (Kd.R_drew PA.out)
  replace RO := Aside0.mk (Kd.R_drew RO.out)
  replace HB := Aside0.mk (below_drew1 HB.out)
  replace ZZ := Aside0.mk (And.intro ZZ.out (show w2_.heap.size ≤ w2_.drew.heap.size from Nat.le_refl _))
  have HX0 := Aside0.mk (show w2_.drew.cell? ⟨gw_, 0, none⟩ = some (.slice B0_ v0.length d0_) from HW0.out.1)
  have HX1 := Aside0.mk (show w2_.drew.cell? ⟨gw_, 1, none⟩ = some (.slice B1_ v1.length d1_) from HW1.out.1)
  have HX2 := Aside0.mk (show w2_.drew.cell? ⟨gw_, 2, none⟩ = some (.slice B2_ v2.length d2_) from HW2.out.1)
  have HX3 := Aside0.mk (show w2_.drew.cell? ⟨gw_, 3, none⟩ = some (.slice B3_ v3.length d3_) from HW3.out.1)
  have HX4 := Aside0.mk (show w2_.drew.cell? ⟨gw_, 4, none⟩ = some (.slice B4_ v4.length d4_) from HW4.out.1)
  have HX5 := Aside0.mk (show w2_.drew.cell? ⟨gw_, 5, none⟩ = some (.slice B5_ v5.length d5_) from HW5.out.1)
  have HV1 := Aside0.mk (show (Kd.int .u8).C w2_.drew B1_ v1.length v1 from Kd.C_drew HW1.out.2.2)
  have HV2 := Aside0.mk (show (Kd.int .u8).C w2_.drew B2_ v2.length v2 from Kd.C_drew HW2.out.2.2)
  have HV3 := Aside0.mk (show (Kd.int .u8).C w2_.drew B3_ v3.length v3 from Kd.C_drew HW3.out.2.2)
  have HV5 := Aside0.mk (show (Kd.int .u8).C w2_.drew B5_ v5.length v5 from Kd.C_drew HW5.out.2.2)
  refine start_ (n := 29) (S := fun w' => Below w2_.drew.heap.size w2_.drew w') (ds := [28]) #[false, false, false, false, false, false, false, false, false, false, false, false, false, false, false, false, false, false, false, false, false, false, false, false, false, false, false, false, false] (by kernel_rfl) rfl rfl (Below.refl _ _) (fun hHeld => ?_)
  generalize w2_.drew = w3_ at BK2 PA RO HX0 HX1 HX2 HX3 HX4 HX5 HV1 HV2 HV3 HV5 HB ZZ hHeld ⊢
  refine pure_ (i := 0) (N := some 13) (v := ?_) (a' := ?_) #[true, false, false, false, false, false, false, false, false, false, false, false, false, false, false, false, false, false, false, false, false, false, false, false, false, false, false, false, false] rfl rfl (by kernel_rfl) (fun _ _ _ h => h) (Or.inl ⟨by rfl, ?_⟩) ?_ ?_
  rotate_left
  · intro w'
    go_simp
    with_reducible rfl
  rotate_left
  · simp only [Act.put, List.setIfInBounds_toArray, List.set_cons_zero, List.set_cons_succ, i64_w, i32_w]
    rfl
  refine pure_ (i := 1) (N := some 14) (v := ?_) (a' := ?_) #[true, true, false, false, false, false, false, false, false, false, false, false, false, false, false, false, false, false, false, false, false, false, false, false, false, false, false, false, false] rfl rfl (by kernel_rfl) (fun _ _ _ h => h) (Or.inl ⟨by rfl, ?_⟩) ?_ ?_
  rotate_left
  · intro w'
    go_simp
    with_reducible rfl
  rotate_left
  · simp only [Act.put, List.setIfInBounds_toArray, List.set_cons_zero, List.set_cons_succ, i64_w, i32_w]
    rfl
  refine take_ (i := 2) (N := some 15) (v := ?_) (a' := ?_) #[true, true, true, false, false, false, false, false, false, false, false, false, false, false, false, false, false, false, false, false, false, false, false, false, false, false, false, false, false] rfl rfl (by kernel_rfl) (fun _ _ _ h => h) (Or.inl ⟨by rfl, ?_⟩) hHeld ?_ ?_
  rotate_left
  · rintro w' h_
    have q_ := (h_.cell (World.block_lt_of_cell? _ _ HX0.out)).trans HX0.out
    go_simp
    with_reducible rfl
  rotate_left
  · simp only [Act.put, List.setIfInBounds_toArray, List.set_cons_zero, List.set_cons_succ, i64_w, i32_w]
    rfl
  refine pure_ (i := 3) (N := some 16) (v := ?_) (a' := ?_) #[true, true, true, true, false, false, false, false, false, false, false, false, false, false, false, false, false, false, false, false, false, false, false, false, false, false, false, false, false] rfl rfl (by kernel_rfl) (fun _ _ _ h => h) (Or.inl ⟨by rfl, ?_⟩) ?_ ?_
  rotate_left
  · intro w'
    go_simp
    with_reducible rfl
  rotate_left
  · simp only [Act.put, List.setIfInBounds_toArray, List.set_cons_zero, List.set_cons_succ, i64_w, i32_w]
    rfl
  refine pure_ (i := 4) (N := some 17) (v := ?_) (a' := ?_) #[true, true, true, true, true, false, false, false, false, false, false, false, false, false, false, false, false, false, false, false, false, false, false, false, false, false, false, false, false] rfl rfl (by kernel_rfl) (fun _ _ _ h => h) (Or.inl ⟨by rfl, ?_⟩) ?_ ?_
  rotate_left
  · intro w'
    go_simp
    with_reducible rfl
  rotate_left
  · simp only [Act.put, List.setIfInBounds_toArray, List.set_cons_zero, List.set_cons_succ, i64_w, i32_w]
    rfl
  refine take_ (i := 5) (N := some 18) (v := ?_) (a' := ?_) #[true, true, true, true, true, true, false, false, false, false, false, false, false, false, false, false, false, false, false, false, false, false, false, false, false, false, false, false, false] rfl rfl (by kernel_rfl) (fun _ _ _ h => h) (Or.inl ⟨by rfl, ?_⟩) hHeld ?_ ?_
  rotate_left
  · rintro w' h_
    have q_ := (h_.cell (World.block_lt_of_cell? _ _ HX1.out)).trans HX1.out
    go_simp
    with_reducible rfl
  rotate_left
  · simp only [Act.put, List.setIfInBounds_toArray, List.set_cons_zero, List.set_cons_succ, i64_w, i32_w]
    rfl
  refine pure_ (i := 8) (N := some 21) (v := ?_) (a' := ?_) #[true, true, true, true, true, true, false, false, true, false, false, false, false, false, false, false, false, false, false, false, false, false, false, false, false, false, false, false, false] rfl rfl (by kernel_rfl) (fun _ _ _ h => h) (Or.inl ⟨by rfl, ?_⟩) ?_ ?_
  rotate_left
  · intro w'
    go_simp
    with_reducible rfl
  rotate_left
  · simp only [Act.put, List.setIfInBounds_toArray, List.set_cons_zero, List.set_cons_succ, i64_w, i32_w]
    rfl
  refine pure_ (i := 9) (N := some 22) (v := ?_) (a' := ?_) #[true, true, true, true, true, true, false, false, true, true, false, false, false, false, false, false, false, false, false, false, false, false, false, false, false, false, false, false, false] rfl rfl (by kernel_rfl) (fun _ _ _ h => h) (Or.inl ⟨by rfl, ?_⟩) ?_ ?_
  rotate_left
  · intro w'
    go_simp
    with_reducible rfl
  rotate_left
  · simp only [Act.put, List.setIfInBounds_toArray, List.set_cons_zero, List.set_cons_succ, i64_w, i32_w]
    rfl
  refine take_ (i := 10) (N := some 23) (v := ?_) (a' := ?_) #[true, true, true, true, true, true, false, false, true, true, true, false, false, false, false, false, false, false, false, false, false, false, false, false, false, false, false, false, false] rfl rfl (by kernel_rfl) (fun _ _ _ h => h) (Or.inl ⟨by rfl, ?_⟩) hHeld ?_ ?_
  rotate_left
  · rintro w' h_
    have q_ := (h_.cell (World.block_lt_of_cell? _ _ HX2.out)).trans HX2.out
    go_simp
    with_reducible rfl
  rotate_left
  · simp only [Act.put, List.setIfInBounds_toArray, List.set_cons_zero, List.set_cons_succ, i64_w, i32_w]
    rfl
  refine pure_ (i := 13) (N := some 26) (v := ?_) (a' := ?_) #[true, true, true, true, true, true, false, false, true, true, true, false, false, true, false, false, false, false, false, false, false, false, false, false, false, false, false, false, false] rfl rfl (by kernel_rfl) (fun _ _ _ h => h) (Or.inl ⟨by rfl, ?_⟩) ?_ ?_
  rotate_left
  · intro w'
    go_simp
    with_reducible rfl
  rotate_left
  · simp only [Act.put, List.setIfInBounds_toArray, List.set_cons_zero, List.set_cons_succ, i64_w, i32_w]
    rfl
  refine pure_ (i := 14) (N := some 27) (v := ?_) (a' := ?_) #[true, true, true, true, true, true, false, false, true, true, true, false, false, true, true, false, false, false, false, false, false, false, false, false, false, false, false, false, false] rfl rfl (by kernel_rfl) (fun _ _ _ h => h) (Or.inl ⟨by rfl, ?_⟩) ?_ ?_
  rotate_left
  · intro w'
    go_simp
    with_reducible rfl
  rotate_left
  · simp only [Act.put, List.setIfInBounds_toArray, List.set_cons_zero, List.set_cons_succ, i64_w, i32_w]
    rfl
  refine take_ (i := 15) (N := some 28) (v := ?_) (a' := ?_) #[true, true, true, true, true, true, false, false, true, true, true, false, false, true, true, true, false, false, false, false, false, false, false, false, false, false, false, false, false] rfl rfl (by kernel_rfl) (fun _ _ _ h => h) (Or.inl ⟨by rfl, ?_⟩) hHeld ?_ ?_
  rotate_left
  · rintro w' h_
    have q_ := (h_.cell (World.block_lt_of_cell? _ _ HX3.out)).trans HX3.out
    go_simp
    with_reducible rfl
  rotate_left
  · simp only [Act.put, List.setIfInBounds_toArray, List.set_cons_zero, List.set_cons_succ, i64_w, i32_w]
    rfl
  refine pure_ (i := 18) (N := some 31) (v := ?_) (a' := ?_) #[true, true, true, true, true, true, false, false, true, true, true, false, false, true, true, true, false, false, true, false, false, false, false, false, false, false, false, false, false] rfl rfl (by kernel_rfl) (fun _ _ _ h => h) (Or.inl ⟨by rfl, ?_⟩) ?_ ?_
  rotate_left
  · intro w'
    go_simp
    with_reducible rfl
  rotate_left
  · simp only [Act.put, List.setIfInBounds_toArray, List.set_cons_zero, List.set_cons_succ, i64_w, i32_w]
    rfl
  refine pure_ (i := 19) (N := some 32) (v := ?_) (a' := ?_) #[true, true, true, true, true, true, false, false, true, true, true, false, false, true, true, true, false, false, true, true, false, false, false, false, false, false, false, false, false] rfl rfl (by kernel_rfl) (fun _ _ _ h => h) (Or.inl ⟨by rfl, ?_⟩) ?_ ?_
  rotate_left
  · intro w'
    go_simp
    with_reducible rfl
  rotate_left
  · simp only [Act.put, List.setIfInBounds_toArray, List.set_cons_zero, List.set_cons_succ, i64_w, i32_w]
    rfl
  refine take_ (i := 20) (N := some 33) (v := ?_) (a' := ?_) #[true, true, true, true, true, true, false, false, true, true, true, false, false, true, true, true, false, false, true, true, true, false, false, false, false, false, false, false, false] rfl rfl (by kernel_rfl) (fun _ _ _ h => h) (Or.inl ⟨by rfl, ?_⟩) hHeld ?_ ?_
  rotate_left
  · rintro w' h_
    have q_ := (h_.cell (World.block_lt_of_cell? _ _ HX4.out)).trans HX4.out
    go_simp
    with_reducible rfl
  rotate_left
  · simp only [Act.put, List.setIfInBounds_toArray, List.set_cons_zero, List.set_cons_succ, i64_w, i32_w]
    rfl
  refine pure_ (i := 21) (N := some 34) (v := ?_) (a' := ?_) #[true, true, true, true, true, true, false, false, true, true, true, false, false, true, true, true, false, false, true, true, true, true, false, false, false, false, false, false, false] rfl rfl (by kernel_rfl) (fun _ _ _ h => h) (Or.inl ⟨by rfl, ?_⟩) ?_ ?_
  rotate_left
  · intro w'
    go_simp
    with_reducible rfl
  rotate_left
  · simp only [Act.put, List.setIfInBounds_toArray, List.set_cons_zero, List.set_cons_succ, i64_w, i32_w]
    rfl
  refine pure_ (i := 22) (N := some 35) (v := ?_) (a' := ?_) #[true, true, true, true, true, true, false, false, true, true, true, false, false, true, true, true, false, false, true, true, true, true, true, false, false, false, false, false, false] rfl rfl (by kernel_rfl) (fun _ _ _ h => h) (Or.inl ⟨by rfl, ?_⟩) ?_ ?_
  rotate_left
  · intro w'
    go_simp
    with_reducible rfl
  rotate_left
  · simp only [Act.put, List.setIfInBounds_toArray, List.set_cons_zero, List.set_cons_succ, i64_w, i32_w]
    rfl
  refine take_ (i := 23) (N := some 36) (v := ?_) (a' := ?_) #[true, true, true, true, true, true, false, false, true, true, true, false, false, true, true, true, false, false, true, true, true, true, true, true, false, false, false, false, false] rfl rfl (by kernel_rfl) (fun _ _ _ h => h) (Or.inl ⟨by rfl, ?_⟩) hHeld ?_ ?_
  rotate_left
  · rintro w' h_
    have q_ := (h_.cell (World.block_lt_of_cell? _ _ HX5.out)).trans HX5.out
    go_simp
    with_reducible rfl
  rotate_left
  · simp only [Act.put, List.setIfInBounds_toArray, List.set_cons_zero, List.set_cons_succ, i64_w, i32_w]
    rfl
  refine join_ (σ := Nat) 1 #[true, true, true, true, true, true, true, true, true, true, true, true, true, true, true, true, true, true, true, true, true, true, true, true, true, true, true, true, false] (fun g => [(19, .agg #[.int .i64 e1, .int .i64 n1]), (20, .int .i64 n1), (24, .agg #[.int .i64 e2, .int .i64 n2]), (25, .int .i64 n2), (29, .agg #[.int .i64 e3, .int .i64 n3]), (30, .int .i64 n3), (37, .agg #[.int .i64 e5, .int .i64 n5]), (38, .int .i64 n5), (39, .agg #[.slice B0_ v0.length d0_, .int .i64 n1, .int .i64 n2, .int .i64 n3, .slice B4_ v4.length d4_, .int .i64 n5]), (4, .pointer (some ⟨g, 0, none⟩))]) (fun g w' => w'.heap[g]? = some (.cells #[.slice none 0 0, .int .i64 0, .int .i64 0, .int .i64 0, .slice none 0 0, .int .i64 0] 33 (0, 0)) ∧ w3_.heap.size ≤ g ∧ Below w3_.heap.size w3_ w') ?_ ?_
  rotate_left
  · intro hCont
    refine two_ (i := 6) (j := 27) (Ni := some 19) (Nj := some 4) #[true, true, true, true, true, true, true, false, true, true, true, false, false, true, true, true, false, false, true, true, true, true, true, true, false, false, false, false, false] #[true, true, true, true, true, true, false, false, true, true, true, false, false, true, true, true, false, false, true, true, true, true, true, true, false, false, false, true, false] rfl rfl rfl rfl (by kernel_rfl) (by decide) (by decide) (fun K hK => ?_) (fun K hK => ?_)
    · skip
      refine goes_ Try.func35 (by kernel_rfl) rfl #[.slice B1_ v1.length d1_] (by rfl) rfl rfl (by (try simp only [List.map_toArray, List.map_cons, List.map_nil]); first | done | rfl) ?_
      refine (impl_NumberOf.calls _ B1_ d1_ v1 e1 n1 _ ?s1 ?s2 H_n1.out).mono ?_
      case s1 => exact Kd.C_below HV1.out hHeld
      case s2 => exact HW1.out.2.1
      rintro e wq_ ⟨rfl, hb⟩
      refine ⟨_, rfl, ?_⟩
      refine hK.out _ _ (below_step hHeld hb) (fun hHeld2 => ?_)
      clear hK K
      clear hHeld
      have hHeld := hHeld2
      clear hHeld2
      refine norm_ (a' := ?_) ?_ ?_
      rotate_left
      · show Act.put _ (some 19) _ = _
        simp only [Act.put, List.setIfInBounds_toArray, List.set_cons_zero, List.set_cons_succ, i64_w, i32_w]
        rfl
      refine pure_ (i := 7) (N := some 20) (v := ?_) (a' := ?_) #[true, true, true, true, true, true, true, true, true, true, true, false, false, true, true, true, false, false, true, true, true, true, true, true, false, false, false, false, false] rfl rfl (by kernel_rfl) (fun _ _ _ h => h) (Or.inl ⟨by rfl, ?_⟩) ?_ ?_
      rotate_left
      · intro w'
        go_simp
        with_reducible rfl
      rotate_left
      · simp only [Act.put, List.setIfInBounds_toArray, List.set_cons_zero, List.set_cons_succ, i64_w, i32_w]
        rfl
      refine two_ (i := 11) (j := 27) (Ni := some 24) (Nj := some 4) #[true, true, true, true, true, true, true, true, true, true, true, true, false, true, true, true, false, false, true, true, true, true, true, true, false, false, false, false, false] #[true, true, true, true, true, true, true, true, true, true, true, false, false, true, true, true, false, false, true, true, true, true, true, true, false, false, false, true, false] rfl rfl rfl rfl (by kernel_rfl) (by decide) (by decide) (fun K hK => ?_) (fun K hK => ?_)
      · skip
        refine goes_ Try.func35 (by kernel_rfl) rfl #[.slice B2_ v2.length d2_] (by rfl) rfl rfl (by (try simp only [List.map_toArray, List.map_cons, List.map_nil]); first | done | rfl) ?_
        refine (impl_NumberOf.calls _ B2_ d2_ v2 e2 n2 _ ?s1 ?s2 H_n2.out).mono ?_
        case s1 => exact Kd.C_below HV2.out hHeld
        case s2 => exact HW2.out.2.1
        rintro e wq_ ⟨rfl, hb⟩
        refine ⟨_, rfl, ?_⟩
        refine hK.out _ _ (below_step hHeld hb) (fun hHeld2 => ?_)
        clear hK K
        clear hHeld
        have hHeld := hHeld2
        clear hHeld2
        refine norm_ (a' := ?_) ?_ ?_
        rotate_left
        · show Act.put _ (some 24) _ = _
          simp only [Act.put, List.setIfInBounds_toArray, List.set_cons_zero, List.set_cons_succ, i64_w, i32_w]
          rfl
        refine pure_ (i := 12) (N := some 25) (v := ?_) (a' := ?_) #[true, true, true, true, true, true, true, true, true, true, true, true, true, true, true, true, false, false, true, true, true, true, true, true, false, false, false, false, false] rfl rfl (by kernel_rfl) (fun _ _ _ h => h) (Or.inl ⟨by rfl, ?_⟩) ?_ ?_
        rotate_left
        · intro w'
          go_simp
          with_reducible rfl
        rotate_left
        · simp only [Act.put, List.setIfInBounds_toArray, List.set_cons_zero, List.set_cons_succ, i64_w, i32_w]
          rfl
        refine two_ (i := 16) (j := 27) (Ni := some 29) (Nj := some 4) #[true, true, true, true, true, true, true, true, true, true, true, true, true, true, true, true, true, false, true, true, true, true, true, true, false, false, false, false, false] #[true, true, true, true, true, true, true, true, true, true, true, true, true, true, true, true, false, false, true, true, true, true, true, true, false, false, false, true, false] rfl rfl rfl rfl (by kernel_rfl) (by decide) (by decide) (fun K hK => ?_) (fun K hK => ?_)
        · skip
          refine goes_ Try.func35 (by kernel_rfl) rfl #[.slice B3_ v3.length d3_] (by rfl) rfl rfl (by (try simp only [List.map_toArray, List.map_cons, List.map_nil]); first | done | rfl) ?_
          refine (impl_NumberOf.calls _ B3_ d3_ v3 e3 n3 _ ?s1 ?s2 H_n3.out).mono ?_
          case s1 => exact Kd.C_below HV3.out hHeld
          case s2 => exact HW3.out.2.1
          rintro e wq_ ⟨rfl, hb⟩
          refine ⟨_, rfl, ?_⟩
          refine hK.out _ _ (below_step hHeld hb) (fun hHeld2 => ?_)
          clear hK K
          clear hHeld
          have hHeld := hHeld2
          clear hHeld2
          refine norm_ (a' := ?_) ?_ ?_
          rotate_left
          · show Act.put _ (some 29) _ = _
            simp only [Act.put, List.setIfInBounds_toArray, List.set_cons_zero, List.set_cons_succ, i64_w, i32_w]
            rfl
          refine pure_ (i := 17) (N := some 30) (v := ?_) (a' := ?_) #[true, true, true, true, true, true, true, true, true, true, true, true, true, true, true, true, true, true, true, true, true, true, true, true, false, false, false, false, false] rfl rfl (by kernel_rfl) (fun _ _ _ h => h) (Or.inl ⟨by rfl, ?_⟩) ?_ ?_
          rotate_left
          · intro w'
            go_simp
            with_reducible rfl
          rotate_left
          · simp only [Act.put, List.setIfInBounds_toArray, List.set_cons_zero, List.set_cons_succ, i64_w, i32_w]
            rfl
          refine two_ (i := 24) (j := 27) (Ni := some 37) (Nj := some 4) #[true, true, true, true, true, true, true, true, true, true, true, true, true, true, true, true, true, true, true, true, true, true, true, true, true, false, false, false, false] #[true, true, true, true, true, true, true, true, true, true, true, true, true, true, true, true, true, true, true, true, true, true, true, true, false, false, false, true, false] rfl rfl rfl rfl (by kernel_rfl) (by decide) (by decide) (fun K hK => ?_) (fun K hK => ?_)
          · skip
            refine goes_ Try.func35 (by kernel_rfl) rfl #[.slice B5_ v5.length d5_] (by rfl) rfl rfl (by (try simp only [List.map_toArray, List.map_cons, List.map_nil]); first | done | rfl) ?_
            refine (impl_NumberOf.calls _ B5_ d5_ v5 e5 n5 _ ?s1 ?s2 H_n5.out).mono ?_
            case s1 => exact Kd.C_below HV5.out hHeld
            case s2 => exact HW5.out.2.1
            rintro e wq_ ⟨rfl, hb⟩
            refine ⟨_, rfl, ?_⟩
            refine hK.out _ _ (below_step hHeld hb) (fun hHeld2 => ?_)
            clear hK K
            clear hHeld
            have hHeld := hHeld2
            clear hHeld2
            refine norm_ (a' := ?_) ?_ ?_
            rotate_left
            · show Act.put _ (some 37) _ = _
              simp only [Act.put, List.setIfInBounds_toArray, List.set_cons_zero, List.set_cons_succ, i64_w, i32_w]
              rfl
            refine pure_ (i := 25) (N := some 38) (v := ?_) (a' := ?_) #[true, true, true, true, true, true, true, true, true, true, true, true, true, true, true, true, true, true, true, true, true, true, true, true, true, true, false, false, false] rfl rfl (by kernel_rfl) (fun _ _ _ h => h) (Or.inl ⟨by rfl, ?_⟩) ?_ ?_
            rotate_left
            · intro w'
              go_simp
              with_reducible rfl
            rotate_left
            · simp only [Act.put, List.setIfInBounds_toArray, List.set_cons_zero, List.set_cons_succ, i64_w, i32_w]
              rfl
            refine pure_ (i := 26) (N := some 39) (v := ?_) (a' := ?_) #[true, true, true, true, true, true, true, true, true, true, true, true, true, true, true, true, true, true, true, true, true, true, true, true, true, true, true, false, false] rfl rfl (by kernel_rfl) (fun _ _ _ h => h) (Or.inl ⟨by rfl, ?_⟩) ?_ ?_
            rotate_left
            · intro w'
              go_simp
              with_reducible rfl
            rotate_left
            · simp only [Act.put, List.setIfInBounds_toArray, List.set_cons_zero, List.set_cons_succ, i64_w, i32_w]
              rfl
            refine one_ (i := 27) (N := some 4) #[true, true, true, true, true, true, true, true, true, true, true, true, true, true, true, true, true, true, true, true, true, true, true, true, true, true, true, true, false] rfl rfl (by kernel_rfl) (by decide) (fun K hK => ?_)
            refine box_stepK (cs := #[.slice none 0 0, .int .i64 0, .int .i64 0, .int .i64 0, .slice none 0 0, .int .i64 0]) (t := 33) (by rfl) rfl ?hr ?_
            case hr => first | (go_simp; done) | (go_simp; rfl)
            intro gz_ hg_ wa_ hz_ hb
            have HG := Aside0.mk hz_
            have HGL := Aside0.mk (show w3_.heap.size ≤ gz_ by rw [hg_]; exact hHeld.size)
            refine hK.out _ _ (below_step hHeld hb) (fun hHeld2 => ?_)
            clear hK K hz_ hb hg_ hHeld
            have hHeld := hHeld2
            clear hHeld2
            refine norm_ (a' := ?_) ?_ ?_
            rotate_left
            · show Act.put _ (some 4) _ = _
              simp only [Act.put, List.setIfInBounds_toArray, List.set_cons_zero, List.set_cons_succ, i64_w, i32_w]
              rfl
            exact norm_ (by first | (simp only [putAll, Act.put, List.setIfInBounds_toArray, List.set_cons_zero, List.set_cons_succ]; done) | (simp only [putAll, Act.put, List.setIfInBounds_toArray, List.set_cons_zero, List.set_cons_succ]; rfl)) (hCont gz_ _ ⟨HG.out, HGL.out, hHeld⟩)
          · skip
            refine box_stepK (cs := #[.slice none 0 0, .int .i64 0, .int .i64 0, .int .i64 0, .slice none 0 0, .int .i64 0]) (t := 33) (by rfl) rfl ?hr ?_
            case hr => first | (go_simp; done) | (go_simp; rfl)
            intro gz_ hg_ wa_ hz_ hb
            have HG := Aside0.mk hz_
            have HGL := Aside0.mk (show w3_.heap.size ≤ gz_ by rw [hg_]; exact hHeld.size)
            refine hK.out _ _ (below_step hHeld hb) (fun hHeld2 => ?_)
            clear hK K hz_ hb hg_ hHeld
            have hHeld := hHeld2
            clear hHeld2
            refine norm_ (a' := ?_) ?_ ?_
            rotate_left
            · show Act.put _ (some 4) _ = _
              simp only [Act.put, List.setIfInBounds_toArray, List.set_cons_zero, List.set_cons_succ, i64_w, i32_w]
              rfl
            refine one_ (i := 24) (N := some 37) #[true, true, true, true, true, true, true, true, true, true, true, true, true, true, true, true, true, true, true, true, true, true, true, true, true, false, false, true, false] rfl rfl (by kernel_rfl) (by decide) (fun K hK => ?_)
            refine goes_ Try.func35 (by kernel_rfl) rfl #[.slice B5_ v5.length d5_] (by rfl) rfl rfl (by (try simp only [List.map_toArray, List.map_cons, List.map_nil]); first | done | rfl) ?_
            refine (impl_NumberOf.calls _ B5_ d5_ v5 e5 n5 _ ?s1 ?s2 H_n5.out).mono ?_
            case s1 => exact Kd.C_below HV5.out hHeld
            case s2 => exact HW5.out.2.1
            rintro e wq_ ⟨rfl, hb⟩
            refine ⟨_, rfl, ?_⟩
            refine hK.out _ _ (below_step hHeld hb) (fun hHeld2 => ?_)
            clear hK K
            replace HG := Aside0.mk (blk_below HG.out hb)
            clear hHeld
            have hHeld := hHeld2
            clear hHeld2
            refine norm_ (a' := ?_) ?_ ?_
            rotate_left
            · show Act.put _ (some 37) _ = _
              simp only [Act.put, List.setIfInBounds_toArray, List.set_cons_zero, List.set_cons_succ, i64_w, i32_w]
              rfl
            refine pure_ (i := 25) (N := some 38) (v := ?_) (a' := ?_) #[true, true, true, true, true, true, true, true, true, true, true, true, true, true, true, true, true, true, true, true, true, true, true, true, true, true, false, true, false] rfl rfl (by kernel_rfl) (fun _ _ _ h => h) (Or.inl ⟨by rfl, ?_⟩) ?_ ?_
            rotate_left
            · intro w'
              go_simp
              with_reducible rfl
            rotate_left
            · simp only [Act.put, List.setIfInBounds_toArray, List.set_cons_zero, List.set_cons_succ, i64_w, i32_w]
              rfl
            refine pure_ (i := 26) (N := some 39) (v := ?_) (a' := ?_) #[true, true, true, true, true, true, true, true, true, true, true, true, true, true, true, true, true, true, true, true, true, true, true, true, true, true, true, true, false] rfl rfl (by kernel_rfl) (fun _ _ _ h => h) (Or.inl ⟨by rfl, ?_⟩) ?_ ?_
            rotate_left
            · intro w'
              go_simp
              with_reducible rfl
            rotate_left
            · simp only [Act.put, List.setIfInBounds_toArray, List.set_cons_zero, List.set_cons_succ, i64_w, i32_w]
              rfl
            exact norm_ (by first | (simp only [putAll, Act.put, List.setIfInBounds_toArray, List.set_cons_zero, List.set_cons_succ]; done) | (simp only [putAll, Act.put, List.setIfInBounds_toArray, List.set_cons_zero, List.set_cons_succ]; rfl)) (hCont gz_ _ ⟨HG.out, HGL.out, hHeld⟩)
        · skip
          refine box_stepK (cs := #[.slice none 0 0, .int .i64 0, .int .i64 0, .int .i64 0, .slice none 0 0, .int .i64 0]) (t := 33) (by rfl) rfl ?hr ?_
          case hr => first | (go_simp; done) | (go_simp; rfl)
          intro gz_ hg_ wa_ hz_ hb
          have HG := Aside0.mk hz_
          have HGL := Aside0.mk (show w3_.heap.size ≤ gz_ by rw [hg_]; exact hHeld.size)
          refine hK.out _ _ (below_step hHeld hb) (fun hHeld2 => ?_)
          clear hK K hz_ hb hg_ hHeld
          have hHeld := hHeld2
          clear hHeld2
          refine norm_ (a' := ?_) ?_ ?_
          rotate_left
          · show Act.put _ (some 4) _ = _
            simp only [Act.put, List.setIfInBounds_toArray, List.set_cons_zero, List.set_cons_succ, i64_w, i32_w]
            rfl
          refine one_ (i := 16) (N := some 29) #[true, true, true, true, true, true, true, true, true, true, true, true, true, true, true, true, true, false, true, true, true, true, true, true, false, false, false, true, false] rfl rfl (by kernel_rfl) (by decide) (fun K hK => ?_)
          refine goes_ Try.func35 (by kernel_rfl) rfl #[.slice B3_ v3.length d3_] (by rfl) rfl rfl (by (try simp only [List.map_toArray, List.map_cons, List.map_nil]); first | done | rfl) ?_
          refine (impl_NumberOf.calls _ B3_ d3_ v3 e3 n3 _ ?s1 ?s2 H_n3.out).mono ?_
          case s1 => exact Kd.C_below HV3.out hHeld
          case s2 => exact HW3.out.2.1
          rintro e wq_ ⟨rfl, hb⟩
          refine ⟨_, rfl, ?_⟩
          refine hK.out _ _ (below_step hHeld hb) (fun hHeld2 => ?_)
          clear hK K
          replace HG := Aside0.mk (blk_below HG.out hb)
          clear hHeld
          have hHeld := hHeld2
          clear hHeld2
          refine norm_ (a' := ?_) ?_ ?_
          rotate_left
          · show Act.put _ (some 29) _ = _
            simp only [Act.put, List.setIfInBounds_toArray, List.set_cons_zero, List.set_cons_succ, i64_w, i32_w]
            rfl
          refine pure_ (i := 17) (N := some 30) (v := ?_) (a' := ?_) #[true, true, true, true, true, true, true, true, true, true, true, true, true, true, true, true, true, true, true, true, true, true, true, true, false, false, false, true, false] rfl rfl (by kernel_rfl) (fun _ _ _ h => h) (Or.inl ⟨by rfl, ?_⟩) ?_ ?_
          rotate_left
          · intro w'
            go_simp
            with_reducible rfl
          rotate_left
          · simp only [Act.put, List.setIfInBounds_toArray, List.set_cons_zero, List.set_cons_succ, i64_w, i32_w]
            rfl
          refine one_ (i := 24) (N := some 37) #[true, true, true, true, true, true, true, true, true, true, true, true, true, true, true, true, true, true, true, true, true, true, true, true, true, false, false, true, false] rfl rfl (by kernel_rfl) (by decide) (fun K hK => ?_)
          refine goes_ Try.func35 (by kernel_rfl) rfl #[.slice B5_ v5.length d5_] (by rfl) rfl rfl (by (try simp only [List.map_toArray, List.map_cons, List.map_nil]); first | done | rfl) ?_
          refine (impl_NumberOf.calls _ B5_ d5_ v5 e5 n5 _ ?s1 ?s2 H_n5.out).mono ?_
          case s1 => exact Kd.C_below HV5.out hHeld
          case s2 => exact HW5.out.2.1
          rintro e wq_ ⟨rfl, hb⟩
          refine ⟨_, rfl, ?_⟩
          refine hK.out _ _ (below_step hHeld hb) (fun hHeld2 => ?_)
          clear hK K
          replace HG := Aside0.mk (blk_below HG.out hb)
          clear hHeld
          have hHeld := hHeld2
          clear hHeld2
          refine norm_ (a' := ?_) ?_ ?_
          rotate_left
          · show Act.put _ (some 37) _ = _
            simp only [Act.put, List.setIfInBounds_toArray, List.set_cons_zero, List.set_cons_succ, i64_w, i32_w]
            rfl
          refine pure_ (i := 25) (N := some 38) (v := ?_) (a' := ?_) #[true, true, true, true, true, true, true, true, true, true, true, true, true, true, true, true, true, true, true, true, true, true, true, true, true, true, false, true, false] rfl rfl (by kernel_rfl) (fun _ _ _ h => h) (Or.inl ⟨by rfl, ?_⟩) ?_ ?_
          rotate_left
          · intro w'
            go_simp
            with_reducible rfl
          rotate_left
          · simp only [Act.put, List.setIfInBounds_toArray, List.set_cons_zero, List.set_cons_succ, i64_w, i32_w]
            rfl
          refine pure_ (i := 26) (N := some 39) (v := ?_) (a' := ?_) #[true, true, true, true, true, true, true, true, true, true, true, true, true, true, true, true, true, true, true, true, true, true, true, true, true, true, true, true, false] rfl rfl (by kernel_rfl) (fun _ _ _ h => h) (Or.inl ⟨by rfl, ?_⟩) ?_ ?_
          rotate_left
          · intro w'
            go_simp
            with_reducible rfl
          rotate_left
          · simp only [Act.put, List.setIfInBounds_toArray, List.set_cons_zero, List.set_cons_succ, i64_w, i32_w]
            rfl
          exact norm_ (by first | (simp only [putAll, Act.put, List.setIfInBounds_toArray, List.set_cons_zero, List.set_cons_succ]; done) | (simp only [putAll, Act.put, List.setIfInBounds_toArray, List.set_cons_zero, List.set_cons_succ]; rfl)) (hCont gz_ _ ⟨HG.out, HGL.out, hHeld⟩)
      · skip
        refine box_stepK (cs := #[.slice none 0 0, .int .i64 0, .int .i64 0, .int .i64 0, .slice none 0 0, .int .i64 0]) (t := 33) (by rfl) rfl ?hr ?_
        case hr => first | (go_simp; done) | (go_simp; rfl)
        intro gz_ hg_ wa_ hz_ hb
        have HG := Aside0.mk hz_
        have HGL := Aside0.mk (show w3_.heap.size ≤ gz_ by rw [hg_]; exact hHeld.size)
        refine hK.out _ _ (below_step hHeld hb) (fun hHeld2 => ?_)
        clear hK K hz_ hb hg_ hHeld
        have hHeld := hHeld2
        clear hHeld2
        refine norm_ (a' := ?_) ?_ ?_
        rotate_left
        · show Act.put _ (some 4) _ = _
          simp only [Act.put, List.setIfInBounds_toArray, List.set_cons_zero, List.set_cons_succ, i64_w, i32_w]
          rfl
        refine one_ (i := 11) (N := some 24) #[true, true, true, true, true, true, true, true, true, true, true, true, false, true, true, true, false, false, true, true, true, true, true, true, false, false, false, true, false] rfl rfl (by kernel_rfl) (by decide) (fun K hK => ?_)
        refine goes_ Try.func35 (by kernel_rfl) rfl #[.slice B2_ v2.length d2_] (by rfl) rfl rfl (by (try simp only [List.map_toArray, List.map_cons, List.map_nil]); first | done | rfl) ?_
        refine (impl_NumberOf.calls _ B2_ d2_ v2 e2 n2 _ ?s1 ?s2 H_n2.out).mono ?_
        case s1 => exact Kd.C_below HV2.out hHeld
        case s2 => exact HW2.out.2.1
        rintro e wq_ ⟨rfl, hb⟩
        refine ⟨_, rfl, ?_⟩
        refine hK.out _ _ (below_step hHeld hb) (fun hHeld2 => ?_)
        clear hK K
        replace HG := Aside0.mk (blk_below HG.out hb)
        clear hHeld
        have hHeld := hHeld2
        clear hHeld2
        refine norm_ (a' := ?_) ?_ ?_
        rotate_left
        · show Act.put _ (some 24) _ = _
          simp only [Act.put, List.setIfInBounds_toArray, List.set_cons_zero, List.set_cons_succ, i64_w, i32_w]
          rfl
        refine pure_ (i := 12) (N := some 25) (v := ?_) (a' := ?_) #[true, true, true, true, true, true, true, true, true, true, true, true, true, true, true, true, false, false, true, true, true, true, true, true, false, false, false, true, false] rfl rfl (by kernel_rfl) (fun _ _ _ h => h) (Or.inl ⟨by rfl, ?_⟩) ?_ ?_
        rotate_left
        · intro w'
          go_simp
          with_reducible rfl
        rotate_left
        · simp only [Act.put, List.setIfInBounds_toArray, List.set_cons_zero, List.set_cons_succ, i64_w, i32_w]
          rfl
        refine one_ (i := 16) (N := some 29) #[true, true, true, true, true, true, true, true, true, true, true, true, true, true, true, true, true, false, true, true, true, true, true, true, false, false, false, true, false] rfl rfl (by kernel_rfl) (by decide) (fun K hK => ?_)
        refine goes_ Try.func35 (by kernel_rfl) rfl #[.slice B3_ v3.length d3_] (by rfl) rfl rfl (by (try simp only [List.map_toArray, List.map_cons, List.map_nil]); first | done | rfl) ?_
        refine (impl_NumberOf.calls _ B3_ d3_ v3 e3 n3 _ ?s1 ?s2 H_n3.out).mono ?_
        case s1 => exact Kd.C_below HV3.out hHeld
        case s2 => exact HW3.out.2.1
        rintro e wq_ ⟨rfl, hb⟩
        refine ⟨_, rfl, ?_⟩
        refine hK.out _ _ (below_step hHeld hb) (fun hHeld2 => ?_)
        clear hK K
        replace HG := Aside0.mk (blk_below HG.out hb)
        clear hHeld
        have hHeld := hHeld2
        clear hHeld2
        refine norm_ (a' := ?_) ?_ ?_
        rotate_left
        · show Act.put _ (some 29) _ = _
          simp only [Act.put, List.setIfInBounds_toArray, List.set_cons_zero, List.set_cons_succ, i64_w, i32_w]
          rfl
        refine pure_ (i := 17) (N := some 30) (v := ?_) (a' := ?_) #[true, true, true, true, true, true, true, true, true, true, true, true, true, true, true, true, true, true, true, true, true, true, true, true, false, false, false, true, false] rfl rfl (by kernel_rfl) (fun _ _ _ h => h) (Or.inl ⟨by rfl, ?_⟩) ?_ ?_
        rotate_left
        · intro w'
          go_simp
          with_reducible rfl
        rotate_left
        · simp only [Act.put, List.setIfInBounds_toArray, List.set_cons_zero, List.set_cons_succ, i64_w, i32_w]
          rfl
        refine one_ (i := 24) (N := some 37) #[true, true, true, true, true, true, true, true, true, true, true, true, true, true, true, true, true, true, true, true, true, true, true, true, true, false, false, true, false] rfl rfl (by kernel_rfl) (by decide) (fun K hK => ?_)
        refine goes_ Try.func35 (by kernel_rfl) rfl #[.slice B5_ v5.length d5_] (by rfl) rfl rfl (by (try simp only [List.map_toArray, List.map_cons, List.map_nil]); first | done | rfl) ?_
        refine (impl_NumberOf.calls _ B5_ d5_ v5 e5 n5 _ ?s1 ?s2 H_n5.out).mono ?_
        case s1 => exact Kd.C_below HV5.out hHeld
        case s2 => exact HW5.out.2.1
        rintro e wq_ ⟨rfl, hb⟩
        refine ⟨_, rfl, ?_⟩
        refine hK.out _ _ (below_step hHeld hb) (fun hHeld2 => ?_)
        clear hK K
        replace HG := Aside0.mk (blk_below HG.out hb)
        clear hHeld
        have hHeld := hHeld2
        clear hHeld2
        refine norm_ (a' := ?_) ?_ ?_
        rotate_left
        · show Act.put _ (some 37) _ = _
          simp only [Act.put, List.setIfInBounds_toArray, List.set_cons_zero, List.set_cons_succ, i64_w, i32_w]
          rfl
        refine pure_ (i := 25) (N := some 38) (v := ?_) (a' := ?_) #[true, true, true, true, true, true, true, true, true, true, true, true, true, true, true, true, true, true, true, true, true, true, true, true, true, true, false, true, false] rfl rfl (by kernel_rfl) (fun _ _ _ h => h) (Or.inl ⟨by rfl, ?_⟩) ?_ ?_
        rotate_left
        · intro w'
          go_simp
          with_reducible rfl
        rotate_left
        · simp only [Act.put, List.setIfInBounds_toArray, List.set_cons_zero, List.set_cons_succ, i64_w, i32_w]
          rfl
        refine pure_ (i := 26) (N := some 39) (v := ?_) (a' := ?_) #[true, true, true, true, true, true, true, true, true, true, true, true, true, true, true, true, true, true, true, true, true, true, true, true, true, true, true, true, false] rfl rfl (by kernel_rfl) (fun _ _ _ h => h) (Or.inl ⟨by rfl, ?_⟩) ?_ ?_
        rotate_left
        · intro w'
          go_simp
          with_reducible rfl
        rotate_left
        · simp only [Act.put, List.setIfInBounds_toArray, List.set_cons_zero, List.set_cons_succ, i64_w, i32_w]
          rfl
        exact norm_ (by first | (simp only [putAll, Act.put, List.setIfInBounds_toArray, List.set_cons_zero, List.set_cons_succ]; done) | (simp only [putAll, Act.put, List.setIfInBounds_toArray, List.set_cons_zero, List.set_cons_succ]; rfl)) (hCont gz_ _ ⟨HG.out, HGL.out, hHeld⟩)
    · skip
      refine box_stepK (cs := #[.slice none 0 0, .int .i64 0, .int .i64 0, .int .i64 0, .slice none 0 0, .int .i64 0]) (t := 33) (by rfl) rfl ?hr ?_
      case hr => first | (go_simp; done) | (go_simp; rfl)
      intro gz_ hg_ wa_ hz_ hb
      have HG := Aside0.mk hz_
      have HGL := Aside0.mk (show w3_.heap.size ≤ gz_ by rw [hg_]; exact hHeld.size)
      refine hK.out _ _ (below_step hHeld hb) (fun hHeld2 => ?_)
      clear hK K hz_ hb hg_ hHeld
      have hHeld := hHeld2
      clear hHeld2
      refine norm_ (a' := ?_) ?_ ?_
      rotate_left
      · show Act.put _ (some 4) _ = _
        simp only [Act.put, List.setIfInBounds_toArray, List.set_cons_zero, List.set_cons_succ, i64_w, i32_w]
        rfl
      refine one_ (i := 6) (N := some 19) #[true, true, true, true, true, true, true, false, true, true, true, false, false, true, true, true, false, false, true, true, true, true, true, true, false, false, false, true, false] rfl rfl (by kernel_rfl) (by decide) (fun K hK => ?_)
      refine goes_ Try.func35 (by kernel_rfl) rfl #[.slice B1_ v1.length d1_] (by rfl) rfl rfl (by (try simp only [List.map_toArray, List.map_cons, List.map_nil]); first | done | rfl) ?_
      refine (impl_NumberOf.calls _ B1_ d1_ v1 e1 n1 _ ?s1 ?s2 H_n1.out).mono ?_
      case s1 => exact Kd.C_below HV1.out hHeld
      case s2 => exact HW1.out.2.1
      rintro e wq_ ⟨rfl, hb⟩
      refine ⟨_, rfl, ?_⟩
      refine hK.out _ _ (below_step hHeld hb) (fun hHeld2 => ?_)
      clear hK K
      replace HG := Aside0.mk (blk_below HG.out hb)
      clear hHeld
      have hHeld := hHeld2
      clear hHeld2
      refine norm_ (a' := ?_) ?_ ?_
      rotate_left
      · show Act.put _ (some 19) _ = _
        simp only [Act.put, List.setIfInBounds_toArray, List.set_cons_zero, List.set_cons_succ, i64_w, i32_w]
        rfl
      refine pure_ (i := 7) (N := some 20) (v := ?_) (a' := ?_) #[true, true, true, true, true, true, true, true, true, true, true, false, false, true, true, true, false, false, true, true, true, true, true, true, false, false, false, true, false] rfl rfl (by kernel_rfl) (fun _ _ _ h => h) (Or.inl ⟨by rfl, ?_⟩) ?_ ?_
      rotate_left
      · intro w'
        go_simp
        with_reducible rfl
      rotate_left
      · simp only [Act.put, List.setIfInBounds_toArray, List.set_cons_zero, List.set_cons_succ, i64_w, i32_w]
        rfl
      refine one_ (i := 11) (N := some 24) #[true, true, true, true, true, true, true, true, true, true, true, true, false, true, true, true, false, false, true, true, true, true, true, true, false, false, false, true, false] rfl rfl (by kernel_rfl) (by decide) (fun K hK => ?_)
      refine goes_ Try.func35 (by kernel_rfl) rfl #[.slice B2_ v2.length d2_] (by rfl) rfl rfl (by (try simp only [List.map_toArray, List.map_cons, List.map_nil]); first | done | rfl) ?_
      refine (impl_NumberOf.calls _ B2_ d2_ v2 e2 n2 _ ?s1 ?s2 H_n2.out).mono ?_
      case s1 => exact Kd.C_below HV2.out hHeld
      case s2 => exact HW2.out.2.1
      rintro e wq_ ⟨rfl, hb⟩
      refine ⟨_, rfl, ?_⟩
      refine hK.out _ _ (below_step hHeld hb) (fun hHeld2 => ?_)
      clear hK K
      replace HG := Aside0.mk (blk_below HG.out hb)
      clear hHeld
      have hHeld := hHeld2
      clear hHeld2
      refine norm_ (a' := ?_) ?_ ?_
      rotate_left
      · show Act.put _ (some 24) _ = _
        simp only [Act.put, List.setIfInBounds_toArray, List.set_cons_zero, List.set_cons_succ, i64_w, i32_w]
        rfl
      refine pure_ (i := 12) (N := some 25) (v := ?_) (a' := ?_) #[true, true, true, true, true, true, true, true, true, true, true, true, true, true, true, true, false, false, true, true, true, true, true, true, false, false, false, true, false] rfl rfl (by kernel_rfl) (fun _ _ _ h => h) (Or.inl ⟨by rfl, ?_⟩) ?_ ?_
      rotate_left
      · intro w'
        go_simp
        with_reducible rfl
      rotate_left
      · simp only [Act.put, List.setIfInBounds_toArray, List.set_cons_zero, List.set_cons_succ, i64_w, i32_w]
        rfl
      refine one_ (i := 16) (N := some 29) #[true, true, true, true, true, true, true, true, true, true, true, true, true, true, true, true, true, false, true, true, true, true, true, true, false, false, false, true, false] rfl rfl (by kernel_rfl) (by decide) (fun K hK => ?_)
      refine goes_ Try.func35 (by kernel_rfl) rfl #[.slice B3_ v3.length d3_] (by rfl) rfl rfl (by (try simp only [List.map_toArray, List.map_cons, List.map_nil]); first | done | rfl) ?_
      refine (impl_NumberOf.calls _ B3_ d3_ v3 e3 n3 _ ?s1 ?s2 H_n3.out).mono ?_
      case s1 => exact Kd.C_below HV3.out hHeld
      case s2 => exact HW3.out.2.1
      rintro e wq_ ⟨rfl, hb⟩
      refine ⟨_, rfl, ?_⟩
      refine hK.out _ _ (below_step hHeld hb) (fun hHeld2 => ?_)
      clear hK K
      replace HG := Aside0.mk (blk_below HG.out hb)
      clear hHeld
      have hHeld := hHeld2
      clear hHeld2
      refine norm_ (a' := ?_) ?_ ?_
      rotate_left
      · show Act.put _ (some 29) _ = _
        simp only [Act.put, List.setIfInBounds_toArray, List.set_cons_zero, List.set_cons_succ, i64_w, i32_w]
        rfl
      refine pure_ (i := 17) (N := some 30) (v := ?_) (a' := ?_) #[true, true, true, true, true, true, true, true, true, true, true, true, true, true, true, true, true, true, true, true, true, true, true, true, false, false, false, true, false] rfl rfl (by kernel_rfl) (fun _ _ _ h => h) (Or.inl ⟨by rfl, ?_⟩) ?_ ?_
      rotate_left
      · intro w'
        go_simp
        with_reducible rfl
      rotate_left
      · simp only [Act.put, List.setIfInBounds_toArray, List.set_cons_zero, List.set_cons_succ, i64_w, i32_w]
        rfl
      refine one_ (i := 24) (N := some 37) #[true, true, true, true, true, true, true, true, true, true, true, true, true, true, true, true, true, true, true, true, true, true, true, true, true, false, false, true, false] rfl rfl (by kernel_rfl) (by decide) (fun K hK => ?_)
      refine goes_ Try.func35 (by kernel_rfl) rfl #[.slice B5_ v5.length d5_] (by rfl) rfl rfl (by (try simp only [List.map_toArray, List.map_cons, List.map_nil]); first | done | rfl) ?_
      refine (impl_NumberOf.calls _ B5_ d5_ v5 e5 n5 _ ?s1 ?s2 H_n5.out).mono ?_
      case s1 => exact Kd.C_below HV5.out hHeld
      case s2 => exact HW5.out.2.1
      rintro e wq_ ⟨rfl, hb⟩
      refine ⟨_, rfl, ?_⟩
      refine hK.out _ _ (below_step hHeld hb) (fun hHeld2 => ?_)
      clear hK K
      replace HG := Aside0.mk (blk_below HG.out hb)
      clear hHeld
      have hHeld := hHeld2
      clear hHeld2
      refine norm_ (a' := ?_) ?_ ?_
      rotate_left
      · show Act.put _ (some 37) _ = _
        simp only [Act.put, List.setIfInBounds_toArray, List.set_cons_zero, List.set_cons_succ, i64_w, i32_w]
        rfl
      refine pure_ (i := 25) (N := some 38) (v := ?_) (a' := ?_) #[true, true, true, true, true, true, true, true, true, true, true, true, true, true, true, true, true, true, true, true, true, true, true, true, true, true, false, true, false] rfl rfl (by kernel_rfl) (fun _ _ _ h => h) (Or.inl ⟨by rfl, ?_⟩) ?_ ?_
      rotate_left
      · intro w'
        go_simp
        with_reducible rfl
      rotate_left
      · simp only [Act.put, List.setIfInBounds_toArray, List.set_cons_zero, List.set_cons_succ, i64_w, i32_w]
        rfl
      refine pure_ (i := 26) (N := some 39) (v := ?_) (a' := ?_) #[true, true, true, true, true, true, true, true, true, true, true, true, true, true, true, true, true, true, true, true, true, true, true, true, true, true, true, true, false] rfl rfl (by kernel_rfl) (fun _ _ _ h => h) (Or.inl ⟨by rfl, ?_⟩) ?_ ?_
      rotate_left
      · intro w'
        go_simp
        with_reducible rfl
      rotate_left
      · simp only [Act.put, List.setIfInBounds_toArray, List.set_cons_zero, List.set_cons_succ, i64_w, i32_w]
        rfl
      exact norm_ (by first | (simp only [putAll, Act.put, List.setIfInBounds_toArray, List.set_cons_zero, List.set_cons_succ]; done) | (simp only [putAll, Act.put, List.setIfInBounds_toArray, List.set_cons_zero, List.set_cons_succ]; rfl)) (hCont gz_ _ ⟨HG.out, HGL.out, hHeld⟩)
  clear hHeld
  rintro g4_ w4_ ⟨bJ_, gJ_, hb⟩
  replace BK2 := Aside0.mk (blk_below BK2.out hb)
  replace PA := Aside0.mk (Kd.R_below PA.out hb)
  replace RO := Aside0.mk (Kd.R_below RO.out hb)
  replace HB := Aside0.mk (below_step HB.out hb)
  replace ZZ := Aside0.mk (And.intro ZZ.out (show w3_.heap.size ≤ w4_.heap.size from hb.size))
  have BK4 := Aside0.mk bJ_
  replace ZZ := Aside0.mk (And.intro ZZ.out (And.intro (show w3_.heap.size ≤ g4_ from gJ_) (show g4_ < w4_.heap.size from blk_lt bJ_)))
  clear bJ_ gJ_ hb
  refine norm_ (a' := ?_) ?_ ?_
  rotate_left
  · simp only [putAll, Act.put, List.setIfInBounds_toArray, List.set_cons_zero, List.set_cons_succ]
    rfl
  refine last_ (i := 28) (N := none) #[true, true, true, true, true, true, true, true, true, true, true, true, true, true, true, true, true, true, true, true, true, true, true, true, true, true, true, true, true] rfl rfl (by kernel_rfl) (by decide) (fun K hK => ?_)
  refine row_stepK (by rfl) 33 (.tmp 4) (.tmp 39) rfl g4_ #[.slice B0_ v0.length d0_, .int .i64 n1, .int .i64 n2, .int .i64 n3, .slice B4_ v4.length d4_, .int .i64 n5] rfl ?hy 33 _ BK4.out ?hi ?ho ?h1 rfl HB.out (show w.heap.size ≤ g4_ from (by have h_ := ZZ.out; omega)) ?_
  case hy => rfl
  case hi => kernel_rfl
  case ho => rfl
  case h1 => first | rfl | (simp [Value.oneCell']; done) | (go_simp; done)
  intro w5_ bo hk hb2
  clear BK4
  replace BK2 := Aside0.mk (blk_keptIn BK2.out hk (by have h_ := ZZ.out; omega))
  replace PA := Aside0.mk (B_kept PA.out hk (by have h_ := ZZ.out; omega))
  replace RO := Aside0.mk (B_kept RO.out hk (by have h_ := ZZ.out; omega))
  replace HB := Aside0.mk hb2
  replace ZZ := Aside0.mk (And.intro ZZ.out (show w4_.heap.size ≤ w5_.heap.size from hk.1))
  have BK4 := Aside0.mk bo
  clear bo hk hb2
  refine hK.out _ _ ?_
  clear hK K
  refine done_ (by kernel_rfl) ?_
  have hz_BK4_0 : w5_.cell? ⟨g4_, 0, none⟩ = some (.slice B0_ v0.length d0_) := (blk_cell BK4.out 0).trans rfl
  have hz_BK4_1 : w5_.cell? ⟨g4_, 1, none⟩ = some (.int .i64 n1) := (blk_cell BK4.out 1).trans rfl
  have hz_BK4_2 : w5_.cell? ⟨g4_, 2, none⟩ = some (.int .i64 n2) := (blk_cell BK4.out 2).trans rfl
  have hz_BK4_3 : w5_.cell? ⟨g4_, 3, none⟩ = some (.int .i64 n3) := (blk_cell BK4.out 3).trans rfl
  have hz_BK4_4 : w5_.cell? ⟨g4_, 4, none⟩ = some (.slice B4_ v4.length d4_) := (blk_cell BK4.out 4).trans rfl
  have hz_BK4_5 : w5_.cell? ⟨g4_, 5, none⟩ = some (.int .i64 n5) := (blk_cell BK4.out 5).trans rfl
  go_wp2_with (first | (go_at_call 61; refine hold_here ?_))
  refine hold_go ?_
  refine (impl_PackHead.calls _ B0_ d0_ v0 n1 n2 n3 B4_ d4_ v4 n5 pc pb _ ?s1 ?s2 ?s3 ?s4 H_p.out).mono ?_
  case s1 => exact (Kd.R_reads' PA.out).2.2
  case s2 => exact (Kd.R_reads' PA.out).2.1
  case s3 => exact (Kd.R_reads' RO.out).2.2
  case s4 => exact (Kd.R_reads' RO.out).2.1
  rintro e w6_ ⟨v, rfl, ho, hb⟩
  replace BK2 := Aside0.mk (blk_below BK2.out hb)
  replace PA := Aside0.mk (Kd.R_below PA.out hb)
  replace RO := Aside0.mk (Kd.R_below RO.out hb)
  replace BK4 := Aside0.mk (blk_below BK4.out hb)
  replace HB := Aside0.mk (below_step HB.out hb)
  clear hz_BK4_0 hz_BK4_1 hz_BK4_2 hz_BK4_3 hz_BK4_4 hz_BK4_5
  replace ZZ := Aside0.mk (And.intro ZZ.out (show w5_.heap.size ≤ w6_.heap.size from hb.size))
  obtain ⟨A_PB, c_PB, ev_, hA_PB⟩ := B_of_R (base := w.heap.size) ho (show w.heap.size ≤ w5_.heap.size from (by have h_ := ZZ.out; omega))
  subst ev_
  have PB := Aside0.mk (show Kd.R (Kd.int .u8) 5 w6_ w.heap.size (In w5_.heap.size w6_.heap.size) (.slice A_PB pb.length c_PB) pb from hA_PB)
  clear hA_PB ho
  clear hb
  have hz_BK4_0 : w6_.cell? ⟨g4_, 0, none⟩ = some (.slice B0_ v0.length d0_) := (blk_cell BK4.out 0).trans rfl
  have hz_BK4_1 : w6_.cell? ⟨g4_, 1, none⟩ = some (.int .i64 n1) := (blk_cell BK4.out 1).trans rfl
  have hz_BK4_2 : w6_.cell? ⟨g4_, 2, none⟩ = some (.int .i64 n2) := (blk_cell BK4.out 2).trans rfl
  have hz_BK4_3 : w6_.cell? ⟨g4_, 3, none⟩ = some (.int .i64 n3) := (blk_cell BK4.out 3).trans rfl
  have hz_BK4_4 : w6_.cell? ⟨g4_, 4, none⟩ = some (.slice B4_ v4.length d4_) := (blk_cell BK4.out 4).trans rfl
  have hz_BK4_5 : w6_.cell? ⟨g4_, 5, none⟩ = some (.int .i64 n5) := (blk_cell BK4.out 5).trans rfl
  go_wp2_with (first | ((with_reducible refine gate_dst (N := 5) rfl ?_); refine hold_here ?_))
  refine hold_go ?_
  refine box_event (N := 5) (cs := #[.int .i64 0, .slice none 0 0]) (t := 24) ?hgb rfl ?hrb ?_
  case hgb => rfl
  case hrb => first | (go_simp; done) | (go_simp; rfl)
  intro g5_ hg w7_ hbox hb
  replace BK2 := Aside0.mk (blk_below BK2.out hb)
  replace PA := Aside0.mk (Kd.R_below PA.out hb)
  replace RO := Aside0.mk (Kd.R_below RO.out hb)
  replace BK4 := Aside0.mk (blk_below BK4.out hb)
  replace PB := Aside0.mk (Kd.R_below PB.out hb)
  replace HB := Aside0.mk (below_step HB.out hb)
  clear hz_BK4_0 hz_BK4_1 hz_BK4_2 hz_BK4_3 hz_BK4_4 hz_BK4_5
  replace ZZ := Aside0.mk (And.intro ZZ.out (show w6_.heap.size ≤ w7_.heap.size from hb.size))
  have BK5 := Aside0.mk hbox
  replace ZZ := Aside0.mk (And.intro ZZ.out (And.intro (show g5_ = w6_.heap.size from hg) (show g5_ < w7_.heap.size from blk_lt hbox)))
  clear hb hbox hg
  have hz_BK4_0 : w7_.cell? ⟨g4_, 0, none⟩ = some (.slice B0_ v0.length d0_) := (blk_cell BK4.out 0).trans rfl
  have hz_BK4_1 : w7_.cell? ⟨g4_, 1, none⟩ = some (.int .i64 n1) := (blk_cell BK4.out 1).trans rfl
  have hz_BK4_2 : w7_.cell? ⟨g4_, 2, none⟩ = some (.int .i64 n2) := (blk_cell BK4.out 2).trans rfl
  have hz_BK4_3 : w7_.cell? ⟨g4_, 3, none⟩ = some (.int .i64 n3) := (blk_cell BK4.out 3).trans rfl
  have hz_BK4_4 : w7_.cell? ⟨g4_, 4, none⟩ = some (.slice B4_ v4.length d4_) := (blk_cell BK4.out 4).trans rfl
  have hz_BK4_5 : w7_.cell? ⟨g4_, 5, none⟩ = some (.int .i64 n5) := (blk_cell BK4.out 5).trans rfl
  have hz_BK5_0 : w7_.cell? ⟨g5_, 0, none⟩ = some (.int .i64 0) := (blk_cell BK5.out 0).trans rfl
  have hz_BK5_1 : w7_.cell? ⟨g5_, 1, none⟩ = some (.slice none 0 0) := (blk_cell BK5.out 1).trans rfl
  go_wp2_with (first | ((with_reducible refine gate_store (t := 24) (p := 5) (v := .tmp 41) rfl ?_); refine hold_here ?_))
  refine hold_go ?_
  refine row_store rfl 24 (.tmp 5) (.tmp 41) rfl g5_ #[.int .i64 pc, .slice A_PB pb.length c_PB] rfl ?hy 24 _ BK5.out ?hi ?ho ?h1 rfl HB.out (show w.heap.size ≤ g5_ from (by have h_ := ZZ.out; omega)) ?_
  case hy => rfl
  case hi => kernel_rfl
  case ho => rfl
  case h1 => first | rfl | (simp [Value.oneCell']; done) | (go_simp; done)
  intro w8_ bo hk hb2
  clear BK5
  replace BK2 := Aside0.mk (blk_keptIn BK2.out hk (by have h_ := ZZ.out; omega))
  replace PA := Aside0.mk (B_kept PA.out hk (by have h_ := ZZ.out; omega))
  replace RO := Aside0.mk (B_kept RO.out hk (by have h_ := ZZ.out; omega))
  replace BK4 := Aside0.mk (blk_keptIn BK4.out hk (by have h_ := ZZ.out; omega))
  replace PB := Aside0.mk (B_kept PB.out hk (by have h_ := ZZ.out; omega))
  replace HB := Aside0.mk hb2
  clear hz_BK4_0 hz_BK4_1 hz_BK4_2 hz_BK4_3 hz_BK4_4 hz_BK4_5 hz_BK5_0 hz_BK5_1
  replace ZZ := Aside0.mk (And.intro ZZ.out (show w7_.heap.size ≤ w8_.heap.size from hk.1))
  have BK5 := Aside0.mk bo
  clear bo hk hb2
  have hz_BK4_0 : w8_.cell? ⟨g4_, 0, none⟩ = some (.slice B0_ v0.length d0_) := (blk_cell BK4.out 0).trans rfl
  have hz_BK4_1 : w8_.cell? ⟨g4_, 1, none⟩ = some (.int .i64 n1) := (blk_cell BK4.out 1).trans rfl
  have hz_BK4_2 : w8_.cell? ⟨g4_, 2, none⟩ = some (.int .i64 n2) := (blk_cell BK4.out 2).trans rfl
  have hz_BK4_3 : w8_.cell? ⟨g4_, 3, none⟩ = some (.int .i64 n3) := (blk_cell BK4.out 3).trans rfl
  have hz_BK4_4 : w8_.cell? ⟨g4_, 4, none⟩ = some (.slice B4_ v4.length d4_) := (blk_cell BK4.out 4).trans rfl
  have hz_BK4_5 : w8_.cell? ⟨g4_, 5, none⟩ = some (.int .i64 n5) := (blk_cell BK4.out 5).trans rfl
  have hz_BK5_0 : w8_.cell? ⟨g5_, 0, none⟩ = some (.int .i64 pc) := (blk_cell BK5.out 0).trans rfl
  have hz_BK5_1 : w8_.cell? ⟨g5_, 1, none⟩ = some (.slice A_PB pb.length c_PB) := (blk_cell BK5.out 1).trans rfl
  by_cases hpc_ : pc = 0
  · skip
    have cp0_ : (pc == 0) = true := beq_iff_eq.2 hpc_
    have cp1_ : (pc != 0) = false := bne_eq_false_iff_eq.2 hpc_
    go_wp2_with (first | (go_at_call 97; refine hold_here ?_))
    refine hold_go ?_
    refine (bytes_Equal.calls A_PB c_PB pb A0 c0 l0 (decide (pb = l0)) _ ?s1 ?s2 ?s3 ?s4 H_e.out).mono ?_
    case s1 => exact (Kd.R_reads' PB.out).2.2
    case s2 => exact (Kd.R_reads' PB.out).2.1
    case s3 => exact Kd.C_below HR0.out HB.out
    case s4 => exact HC0.out
    rintro e w9_ ⟨rfl, hd⟩
    have hb := hd.below
    clear hd
    replace BK2 := Aside0.mk (blk_below BK2.out hb)
    replace PA := Aside0.mk (Kd.R_below PA.out hb)
    replace RO := Aside0.mk (Kd.R_below RO.out hb)
    replace BK4 := Aside0.mk (blk_below BK4.out hb)
    replace PB := Aside0.mk (Kd.R_below PB.out hb)
    replace BK5 := Aside0.mk (blk_below BK5.out hb)
    replace HB := Aside0.mk (below_step HB.out hb)
    clear hz_BK4_0 hz_BK4_1 hz_BK4_2 hz_BK4_3 hz_BK4_4 hz_BK4_5 hz_BK5_0 hz_BK5_1
    replace ZZ := Aside0.mk (And.intro ZZ.out (show w8_.heap.size ≤ w9_.heap.size from hb.size))
    clear hb
    have hz_BK4_0 : w9_.cell? ⟨g4_, 0, none⟩ = some (.slice B0_ v0.length d0_) := (blk_cell BK4.out 0).trans rfl
    have hz_BK4_1 : w9_.cell? ⟨g4_, 1, none⟩ = some (.int .i64 n1) := (blk_cell BK4.out 1).trans rfl
    have hz_BK4_2 : w9_.cell? ⟨g4_, 2, none⟩ = some (.int .i64 n2) := (blk_cell BK4.out 2).trans rfl
    have hz_BK4_3 : w9_.cell? ⟨g4_, 3, none⟩ = some (.int .i64 n3) := (blk_cell BK4.out 3).trans rfl
    have hz_BK4_4 : w9_.cell? ⟨g4_, 4, none⟩ = some (.slice B4_ v4.length d4_) := (blk_cell BK4.out 4).trans rfl
    have hz_BK4_5 : w9_.cell? ⟨g4_, 5, none⟩ = some (.int .i64 n5) := (blk_cell BK4.out 5).trans rfl
    have hz_BK5_0 : w9_.cell? ⟨g5_, 0, none⟩ = some (.int .i64 pc) := (blk_cell BK5.out 0).trans rfl
    have hz_BK5_1 : w9_.cell? ⟨g5_, 1, none⟩ = some (.slice A_PB pb.length c_PB) := (blk_cell BK5.out 1).trans rfl
    by_cases hpb_ : pb = l0
    · have hcn_ : pc = 0 ∧ pb = l0 := ⟨hpc_, hpb_⟩
      have cd_ : decide (pb = l0) = true := decide_eq_true hpb_
      clear hpb_ hpc_
      go_wp2_with (first | ((with_reducible refine gate_store (t := 81) (p := 2) (v := .tmp 54) rfl ?_); refine hold_here ?_))
      refine hold_go ?_
      refine row_store rfl 81 (.tmp 2) (.tmp 54) rfl g2_ #[.int .i64 0, .slice B0_ v0.length d0_, .int .i64 n1, .int .i64 n2, .int .i64 n3, .slice B4_ v4.length d4_, .int .i64 n5] rfl ?hy 81 _ BK2.out ?hi ?ho ?h1 rfl HB.out (show w.heap.size ≤ g2_ from (by have h_ := ZZ.out; omega)) ?_
      case hy => rfl
      case hi => kernel_rfl
      case ho => rfl
      case h1 => first | rfl | (simp [Value.oneCell']; done) | (go_simp; done)
      intro w10_ bo hk hb2
      clear BK2
      replace PA := Aside0.mk (B_kept PA.out hk (by have h_ := ZZ.out; omega))
      replace RO := Aside0.mk (B_kept RO.out hk (by have h_ := ZZ.out; omega))
      replace BK4 := Aside0.mk (blk_keptIn BK4.out hk (by have h_ := ZZ.out; omega))
      replace PB := Aside0.mk (B_kept PB.out hk (by have h_ := ZZ.out; omega))
      replace BK5 := Aside0.mk (blk_keptIn BK5.out hk (by have h_ := ZZ.out; omega))
      replace HB := Aside0.mk hb2
      clear hz_BK4_0 hz_BK4_1 hz_BK4_2 hz_BK4_3 hz_BK4_4 hz_BK4_5 hz_BK5_0 hz_BK5_1
      replace ZZ := Aside0.mk (And.intro ZZ.out (show w9_.heap.size ≤ w10_.heap.size from hk.1))
      have BK2 := Aside0.mk bo
      clear bo hk hb2
      have hz_BK4_0 : w10_.cell? ⟨g4_, 0, none⟩ = some (.slice B0_ v0.length d0_) := (blk_cell BK4.out 0).trans rfl
      have hz_BK4_1 : w10_.cell? ⟨g4_, 1, none⟩ = some (.int .i64 n1) := (blk_cell BK4.out 1).trans rfl
      have hz_BK4_2 : w10_.cell? ⟨g4_, 2, none⟩ = some (.int .i64 n2) := (blk_cell BK4.out 2).trans rfl
      have hz_BK4_3 : w10_.cell? ⟨g4_, 3, none⟩ = some (.int .i64 n3) := (blk_cell BK4.out 3).trans rfl
      have hz_BK4_4 : w10_.cell? ⟨g4_, 4, none⟩ = some (.slice B4_ v4.length d4_) := (blk_cell BK4.out 4).trans rfl
      have hz_BK4_5 : w10_.cell? ⟨g4_, 5, none⟩ = some (.int .i64 n5) := (blk_cell BK4.out 5).trans rfl
      have hz_BK5_0 : w10_.cell? ⟨g5_, 0, none⟩ = some (.int .i64 pc) := (blk_cell BK5.out 0).trans rfl
      have hz_BK5_1 : w10_.cell? ⟨g5_, 1, none⟩ = some (.slice A_PB pb.length c_PB) := (blk_cell BK5.out 1).trans rfl
      go_wp2
      refine bodyPost_ret (results_cell_row rfl _ _ g2_ 81 #[.int .i64 0, .slice B0_ v0.length d0_, .int .i64 n1, .int .i64 n2, .int .i64 n3, .slice B4_ v4.length d4_, .int .i64 n5] (0, 0) _ rfl BK2.out Try.underlying81 rfl (by kernel_rfl)) rfl ?_
      try simp only [if_pos (show pc = 0 ∧ pb = l0 from hcn_)]
      exact ⟨_, _, rfl, Kd.R_mono (Kd.R_tight rfl PA.out) (fun k hk e_ => HAP.out k hk.symm e_.symm), Kd.R_mono (Kd.R_tight rfl RO.out) (fun k hk e_ => HAP.out k e_.symm hk.symm), HB.out⟩
    · have hcn_ : ¬ (pc = 0 ∧ pb = l0) := fun h_ => hpb_ h_.2
      have cd_ : decide (pb = l0) = false := decide_eq_false hpb_
      clear hpb_ hpc_
      go_wp2_with (first | ((with_reducible refine gate_store (t := 81) (p := 2) (v := .tmp 52) rfl ?_); refine hold_here ?_))
      refine hold_go ?_
      refine row_store rfl 81 (.tmp 2) (.tmp 52) rfl g2_ #[.int .i64 5, .slice none 0 0, .int .i64 0, .int .i64 0, .int .i64 0, .slice none 0 0, .int .i64 0] rfl ?hy 81 _ BK2.out ?hi ?ho ?h1 rfl HB.out (show w.heap.size ≤ g2_ from (by have h_ := ZZ.out; omega)) ?_
      case hy => rfl
      case hi => kernel_rfl
      case ho => rfl
      case h1 => first | rfl | (simp [Value.oneCell']; done) | (go_simp; done)
      intro w10_ bo hk hb2
      clear BK2
      replace PA := Aside0.mk (B_kept PA.out hk (by have h_ := ZZ.out; omega))
      replace RO := Aside0.mk (B_kept RO.out hk (by have h_ := ZZ.out; omega))
      replace BK4 := Aside0.mk (blk_keptIn BK4.out hk (by have h_ := ZZ.out; omega))
      replace PB := Aside0.mk (B_kept PB.out hk (by have h_ := ZZ.out; omega))
      replace BK5 := Aside0.mk (blk_keptIn BK5.out hk (by have h_ := ZZ.out; omega))
      replace HB := Aside0.mk hb2
      clear hz_BK4_0 hz_BK4_1 hz_BK4_2 hz_BK4_3 hz_BK4_4 hz_BK4_5 hz_BK5_0 hz_BK5_1
      replace ZZ := Aside0.mk (And.intro ZZ.out (show w9_.heap.size ≤ w10_.heap.size from hk.1))
      have BK2 := Aside0.mk bo
      clear bo hk hb2
      have hz_BK4_0 : w10_.cell? ⟨g4_, 0, none⟩ = some (.slice B0_ v0.length d0_) := (blk_cell BK4.out 0).trans rfl
      have hz_BK4_1 : w10_.cell? ⟨g4_, 1, none⟩ = some (.int .i64 n1) := (blk_cell BK4.out 1).trans rfl
      have hz_BK4_2 : w10_.cell? ⟨g4_, 2, none⟩ = some (.int .i64 n2) := (blk_cell BK4.out 2).trans rfl
      have hz_BK4_3 : w10_.cell? ⟨g4_, 3, none⟩ = some (.int .i64 n3) := (blk_cell BK4.out 3).trans rfl
      have hz_BK4_4 : w10_.cell? ⟨g4_, 4, none⟩ = some (.slice B4_ v4.length d4_) := (blk_cell BK4.out 4).trans rfl
      have hz_BK4_5 : w10_.cell? ⟨g4_, 5, none⟩ = some (.int .i64 n5) := (blk_cell BK4.out 5).trans rfl
      have hz_BK5_0 : w10_.cell? ⟨g5_, 0, none⟩ = some (.int .i64 pc) := (blk_cell BK5.out 0).trans rfl
      have hz_BK5_1 : w10_.cell? ⟨g5_, 1, none⟩ = some (.slice A_PB pb.length c_PB) := (blk_cell BK5.out 1).trans rfl
      go_wp2
      refine bodyPost_ret (results_cell_row rfl _ _ g2_ 81 #[.int .i64 5, .slice none 0 0, .int .i64 0, .int .i64 0, .int .i64 0, .slice none 0 0, .int .i64 0] (0, 0) _ rfl BK2.out Try.underlying81 rfl (by kernel_rfl)) rfl ?_
      try simp only [if_neg (show ¬ (pc = 0 ∧ pb = l0) from hcn_)]
      exact ⟨_, _, rfl, Kd.R_nil _ _ _ _ _, Kd.R_nil _ _ _ _ _, HB.out⟩
  · have cp0_ : (pc == 0) = false := beq_eq_false_iff_ne.2 hpc_
    have cp1_ : (pc != 0) = true := bne_iff_ne.2 hpc_
    have hcn_ : ¬ (pc = 0 ∧ pb = l0) := fun h_ => hpc_ h_.1
    clear hpc_
    go_wp2_with (first | ((with_reducible refine gate_store (t := 81) (p := 2) (v := .tmp 52) rfl ?_); refine hold_here ?_))
    refine hold_go ?_
    refine row_store rfl 81 (.tmp 2) (.tmp 52) rfl g2_ #[.int .i64 5, .slice none 0 0, .int .i64 0, .int .i64 0, .int .i64 0, .slice none 0 0, .int .i64 0] rfl ?hy 81 _ BK2.out ?hi ?ho ?h1 rfl HB.out (show w.heap.size ≤ g2_ from (by have h_ := ZZ.out; omega)) ?_
    case hy => rfl
    case hi => kernel_rfl
    case ho => rfl
    case h1 => first | rfl | (simp [Value.oneCell']; done) | (go_simp; done)
    intro w9_ bo hk hb2
    clear BK2
    replace PA := Aside0.mk (B_kept PA.out hk (by have h_ := ZZ.out; omega))
    replace RO := Aside0.mk (B_kept RO.out hk (by have h_ := ZZ.out; omega))
    replace BK4 := Aside0.mk (blk_keptIn BK4.out hk (by have h_ := ZZ.out; omega))
    replace PB := Aside0.mk (B_kept PB.out hk (by have h_ := ZZ.out; omega))
    replace BK5 := Aside0.mk (blk_keptIn BK5.out hk (by have h_ := ZZ.out; omega))
    replace HB := Aside0.mk hb2
    clear hz_BK4_0 hz_BK4_1 hz_BK4_2 hz_BK4_3 hz_BK4_4 hz_BK4_5 hz_BK5_0 hz_BK5_1
    replace ZZ := Aside0.mk (And.intro ZZ.out (show w8_.heap.size ≤ w9_.heap.size from hk.1))
    have BK2 := Aside0.mk bo
    clear bo hk hb2
    have hz_BK4_0 : w9_.cell? ⟨g4_, 0, none⟩ = some (.slice B0_ v0.length d0_) := (blk_cell BK4.out 0).trans rfl
    have hz_BK4_1 : w9_.cell? ⟨g4_, 1, none⟩ = some (.int .i64 n1) := (blk_cell BK4.out 1).trans rfl
    have hz_BK4_2 : w9_.cell? ⟨g4_, 2, none⟩ = some (.int .i64 n2) := (blk_cell BK4.out 2).trans rfl
    have hz_BK4_3 : w9_.cell? ⟨g4_, 3, none⟩ = some (.int .i64 n3) := (blk_cell BK4.out 3).trans rfl
    have hz_BK4_4 : w9_.cell? ⟨g4_, 4, none⟩ = some (.slice B4_ v4.length d4_) := (blk_cell BK4.out 4).trans rfl
    have hz_BK4_5 : w9_.cell? ⟨g4_, 5, none⟩ = some (.int .i64 n5) := (blk_cell BK4.out 5).trans rfl
    have hz_BK5_0 : w9_.cell? ⟨g5_, 0, none⟩ = some (.int .i64 pc) := (blk_cell BK5.out 0).trans rfl
    have hz_BK5_1 : w9_.cell? ⟨g5_, 1, none⟩ = some (.slice A_PB pb.length c_PB) := (blk_cell BK5.out 1).trans rfl
    go_wp2
    refine bodyPost_ret (results_cell_row rfl _ _ g2_ 81 #[.int .i64 5, .slice none 0 0, .int .i64 0, .int .i64 0, .int .i64 0, .slice none 0 0, .int .i64 0] (0, 0) _ rfl BK2.out Try.underlying81 rfl (by kernel_rfl)) rfl ?_
    try simp only [if_neg (show ¬ (pc = 0 ∧ pb = l0) from hcn_)]
    exact ⟨_, _, rfl, Kd.R_nil _ _ _ _ _, Kd.R_nil _ _ _ _ _, HB.out⟩

end Go.Proofs.Ytmmhghddldhogaa.S

/- The walk over spec.UnpackHead: what it answers, way by way. No condition beyond those in the statements. -/
set_option linter.unusedVariables false
set_option linter.unusedSimpArgs false
namespace Go.Proofs.Ytmmhghddldhogaa.S
open Go Go.RowKit Go.Proofs.YtmmhghddldhogaaW.PrintWords Go.Proofs.YtmmhghddldhogaaW.PrintLast Go.Proofs.YtmmhghddldhogaaW.PrintMore Go.Proofs.Ytmmhghddldhogaa.Base
attribute [local go_sem] max2_int min2_int max_two min_two max_three min_three max_four min_four

set_option maxHeartbeats 80000000 in
set_option maxRecDepth 100000 in
theorem spec_UnpackHead_N (ku : Nat) (A0 : Option Addr) (c0 : Nat) (l0 : List Int) (q0 q1 : Int) (W : List (List Int)) (w : World) (hr0 : Kd.C (Kd.int .u8) w A0 l0.length l0) (hc0 : l0.length ≤ c0) (h_u : spec_UnpackWords.f ku l0 = some (q0, q1, W)) (h_q : q0 ≠ 0) :
    Calls Try.prog 68 #[.slice A0 l0.length c0] w fun e w' => ∃ v u : Value, e = .returned (.agg #[.int .i64 5, v, .int .i64 0, .int .i64 0, .int .i64 0, u, .int .i64 0]) ∧ Kd.R (Kd.int .u8) 5 w' w.heap.size (fun k_ => some k_ ≠ (u : Value).ownBlock) v ([] : List Int) ∧ Kd.R (Kd.int .u8) 5 w' w.heap.size (fun k_ => some k_ ≠ (v : Value).ownBlock) u ([] : List Int) ∧ Below w.heap.size w w' := by
  have hu0_ := Try.underlying81
  have hu1_ := Try.underlying33
  have hu2_ := Try.underlying50
  have hu3_ := Try.underlying24
  have hu4_ := Try.underlying46
  have HR0 := Aside0.mk hr0
  have HC0 := Aside0.mk hc0
  have H_u := Aside0.mk h_u
  have H_q := Aside0.mk h_q
  have HB := Aside0.mk (Below.refl w.heap.size w)
  have ZZ := Aside0.mk (Nat.le_refl w.heap.size)
  have cq0_ : (q0 == 0) = false := beq_eq_false_iff_ne.2 h_q
  have cq1_ : (q0 != 0) = true := bne_iff_ne.2 h_q
  clear hr0 hc0 h_u h_q
  go_enter Try.func68, Try.ntmps68
  go_wp2_with (first | ((with_reducible refine gate_dst (N := 2) rfl ?_); refine hold_here ?_))
  refine hold_go ?_
  refine box_event (N := 2) (cs := #[.int .i64 0, .slice none 0 0, .int .i64 0, .int .i64 0, .int .i64 0, .slice none 0 0, .int .i64 0]) (t := 81) ?hgb rfl ?hrb ?_
  case hgb => rfl
  case hrb => first | (go_simp; done) | (go_simp; rfl)
  intro g2_ hg w1_ hbox hb
  replace HB := Aside0.mk (below_step HB.out hb)
  replace ZZ := Aside0.mk (And.intro ZZ.out (show w.heap.size ≤ w1_.heap.size from hb.size))
  have BK2 := Aside0.mk hbox
  replace ZZ := Aside0.mk (And.intro ZZ.out (And.intro (show g2_ = w.heap.size from hg) (show g2_ < w1_.heap.size from blk_lt hbox)))
  clear hb hbox hg
  go_wp2_with (first | (go_at_call 36; refine hold_here ?_))
  refine hold_go ?_
  refine (spec_UnpackWords.calls _ A0 c0 l0 q0 q1 W _ ?s1 ?s2 H_u.out).mono ?_
  case s1 => exact Kd.C_below HR0.out HB.out
  case s2 => exact HC0.out
  rintro e w2_ ⟨v, rfl, ho, hb⟩
  replace BK2 := Aside0.mk (blk_below BK2.out hb)
  replace HB := Aside0.mk (below_step HB.out hb)
  replace ZZ := Aside0.mk (And.intro ZZ.out (show w1_.heap.size ≤ w2_.heap.size from hb.size))
  obtain ⟨A_WS, c_WS, ev_, hc_WS, hA_WS⟩ := AR_of_S (base := w.heap.size) ho (show w.heap.size ≤ w1_.heap.size from (by have h_ := ZZ.out; omega))
  subst ev_
  have HC_WS := Aside0.mk hc_WS
  have WS := Aside0.mk (show AR w.heap.size w2_ w1_.heap.size w2_.heap.size A_WS W from hA_WS)
  clear hc_WS hA_WS ho
  clear hb
  go_wp2_with (first | ((with_reducible refine gate_dst (N := 3) rfl ?_); refine hold_here ?_))
  refine hold_go ?_
  refine box_event (N := 3) (cs := #[.int .i64 0, .int .i64 0, .slice none 0 0]) (t := 50) ?hgb rfl ?hrb ?_
  case hgb => rfl
  case hrb => first | (go_simp; done) | (go_simp; rfl)
  intro g3_ hg w3_ hbox hb
  replace BK2 := Aside0.mk (blk_below BK2.out hb)
  replace WS := Aside0.mk (AR.below WS.out hb)
  replace HB := Aside0.mk (below_step HB.out hb)
  replace ZZ := Aside0.mk (And.intro ZZ.out (show w2_.heap.size ≤ w3_.heap.size from hb.size))
  have BK3 := Aside0.mk hbox
  replace ZZ := Aside0.mk (And.intro ZZ.out (And.intro (show g3_ = w2_.heap.size from hg) (show g3_ < w3_.heap.size from blk_lt hbox)))
  clear hb hbox hg
  have hz_BK3_0 : w3_.cell? ⟨g3_, 0, none⟩ = some (.int .i64 0) := (blk_cell BK3.out 0).trans rfl
  have hz_BK3_1 : w3_.cell? ⟨g3_, 1, none⟩ = some (.int .i64 0) := (blk_cell BK3.out 1).trans rfl
  have hz_BK3_2 : w3_.cell? ⟨g3_, 2, none⟩ = some (.slice none 0 0) := (blk_cell BK3.out 2).trans rfl
  go_wp2_with (first | ((with_reducible refine gate_store (t := 50) (p := 3) (v := .tmp 7) rfl ?_); refine hold_here ?_))
  refine hold_go ?_
  refine row_store rfl 50 (.tmp 3) (.tmp 7) rfl g3_ #[.int .i64 q0, .int .i64 q1, .slice A_WS W.length c_WS] rfl ?hy 50 _ BK3.out ?hi ?ho ?h1 rfl HB.out (show w.heap.size ≤ g3_ from (by have h_ := ZZ.out; omega)) ?_
  case hy => rfl
  case hi => kernel_rfl
  case ho => rfl
  case h1 => first | rfl | (simp [Value.oneCell']; done) | (go_simp; done)
  intro w4_ bo hk hb2
  clear BK3
  replace BK2 := Aside0.mk (blk_keptIn BK2.out hk (by have h_ := ZZ.out; omega))
  replace WS := Aside0.mk (AR.kept WS.out hk (by have h_ := ZZ.out; omega))
  replace HB := Aside0.mk hb2
  clear hz_BK3_0 hz_BK3_1 hz_BK3_2
  replace ZZ := Aside0.mk (And.intro ZZ.out (show w3_.heap.size ≤ w4_.heap.size from hk.1))
  have BK3 := Aside0.mk bo
  clear bo hk hb2
  have hz_BK3_0 : w4_.cell? ⟨g3_, 0, none⟩ = some (.int .i64 q0) := (blk_cell BK3.out 0).trans rfl
  have hz_BK3_1 : w4_.cell? ⟨g3_, 1, none⟩ = some (.int .i64 q1) := (blk_cell BK3.out 1).trans rfl
  have hz_BK3_2 : w4_.cell? ⟨g3_, 2, none⟩ = some (.slice A_WS W.length c_WS) := (blk_cell BK3.out 2).trans rfl
  go_wp2_with (first | ((with_reducible refine gate_store (t := 81) (p := 2) (v := .tmp 46) rfl ?_); refine hold_here ?_))
  refine hold_go ?_
  refine row_store rfl 81 (.tmp 2) (.tmp 46) rfl g2_ #[.int .i64 5, .slice none 0 0, .int .i64 0, .int .i64 0, .int .i64 0, .slice none 0 0, .int .i64 0] rfl ?hy 81 _ BK2.out ?hi ?ho ?h1 rfl HB.out (show w.heap.size ≤ g2_ from (by have h_ := ZZ.out; omega)) ?_
  case hy => rfl
  case hi => kernel_rfl
  case ho => rfl
  case h1 => first | rfl | (simp [Value.oneCell']; done) | (go_simp; done)
  intro w5_ bo hk hb2
  clear BK2
  replace WS := Aside0.mk (AR.kept WS.out hk (by have h_ := ZZ.out; omega))
  replace BK3 := Aside0.mk (blk_keptIn BK3.out hk (by have h_ := ZZ.out; omega))
  replace HB := Aside0.mk hb2
  clear hz_BK3_0 hz_BK3_1 hz_BK3_2
  replace ZZ := Aside0.mk (And.intro ZZ.out (show w4_.heap.size ≤ w5_.heap.size from hk.1))
  have BK2 := Aside0.mk bo
  clear bo hk hb2
  have hz_BK3_0 : w5_.cell? ⟨g3_, 0, none⟩ = some (.int .i64 q0) := (blk_cell BK3.out 0).trans rfl
  have hz_BK3_1 : w5_.cell? ⟨g3_, 1, none⟩ = some (.int .i64 q1) := (blk_cell BK3.out 1).trans rfl
  have hz_BK3_2 : w5_.cell? ⟨g3_, 2, none⟩ = some (.slice A_WS W.length c_WS) := (blk_cell BK3.out 2).trans rfl
  go_wp2
  refine bodyPost_ret (results_cell_row rfl _ _ g2_ 81 #[.int .i64 5, .slice none 0 0, .int .i64 0, .int .i64 0, .int .i64 0, .slice none 0 0, .int .i64 0] (0, 0) _ rfl BK2.out Try.underlying81 rfl (by kernel_rfl)) rfl ?_
  exact ⟨_, _, rfl, Kd.R_nil _ _ _ _ _, Kd.R_nil _ _ _ _ _, HB.out⟩
set_option maxHeartbeats 80000000 in
set_option maxRecDepth 100000 in
theorem spec_UnpackHead_A (ku : Nat) (A0 : Option Addr) (c0 : Nat) (l0 : List Int) (q0 q1 : Int) (W : List (List Int)) (w : World) (hr0 : Kd.C (Kd.int .u8) w A0 l0.length l0) (hc0 : l0.length ≤ c0) (h_u : spec_UnpackWords.f ku l0 = some (q0, q1, W)) (h_q : q0 = 0) (h_n : W.length ≠ 6) :
    Calls Try.prog 68 #[.slice A0 l0.length c0] w fun e w' => ∃ v u : Value, e = .returned (.agg #[.int .i64 5, v, .int .i64 0, .int .i64 0, .int .i64 0, u, .int .i64 0]) ∧ Kd.R (Kd.int .u8) 5 w' w.heap.size (fun k_ => some k_ ≠ (u : Value).ownBlock) v ([] : List Int) ∧ Kd.R (Kd.int .u8) 5 w' w.heap.size (fun k_ => some k_ ≠ (v : Value).ownBlock) u ([] : List Int) ∧ Below w.heap.size w w' := by
  have hu0_ := Try.underlying81
  have hu1_ := Try.underlying33
  have hu2_ := Try.underlying50
  have hu3_ := Try.underlying24
  have hu4_ := Try.underlying46
  have HR0 := Aside0.mk hr0
  have HC0 := Aside0.mk hc0
  have H_u := Aside0.mk h_u
  have H_q := Aside0.mk h_q
  have H_n := Aside0.mk h_n
  have HB := Aside0.mk (Below.refl w.heap.size w)
  have ZZ := Aside0.mk (Nat.le_refl w.heap.size)
  have cq0_ : (q0 == 0) = true := beq_iff_eq.2 h_q
  have cq1_ : (q0 != 0) = false := bne_eq_false_iff_eq.2 h_q
  have cn0_ : ((W.length : Int) != 6) = true := bne_iff_ne.2 (by omega)
  have cn1_ : ((W.length : Int) == 6) = false := beq_eq_false_iff_ne.2 (by omega)
  clear hr0 hc0 h_u h_q h_n
  go_enter Try.func68, Try.ntmps68
  go_wp2_with (first | ((with_reducible refine gate_dst (N := 2) rfl ?_); refine hold_here ?_))
  refine hold_go ?_
  refine box_event (N := 2) (cs := #[.int .i64 0, .slice none 0 0, .int .i64 0, .int .i64 0, .int .i64 0, .slice none 0 0, .int .i64 0]) (t := 81) ?hgb rfl ?hrb ?_
  case hgb => rfl
  case hrb => first | (go_simp; done) | (go_simp; rfl)
  intro g2_ hg w1_ hbox hb
  replace HB := Aside0.mk (below_step HB.out hb)
  replace ZZ := Aside0.mk (And.intro ZZ.out (show w.heap.size ≤ w1_.heap.size from hb.size))
  have BK2 := Aside0.mk hbox
  replace ZZ := Aside0.mk (And.intro ZZ.out (And.intro (show g2_ = w.heap.size from hg) (show g2_ < w1_.heap.size from blk_lt hbox)))
  clear hb hbox hg
  go_wp2_with (first | (go_at_call 36; refine hold_here ?_))
  refine hold_go ?_
  refine (spec_UnpackWords.calls _ A0 c0 l0 q0 q1 W _ ?s1 ?s2 H_u.out).mono ?_
  case s1 => exact Kd.C_below HR0.out HB.out
  case s2 => exact HC0.out
  rintro e w2_ ⟨v, rfl, ho, hb⟩
  replace BK2 := Aside0.mk (blk_below BK2.out hb)
  replace HB := Aside0.mk (below_step HB.out hb)
  replace ZZ := Aside0.mk (And.intro ZZ.out (show w1_.heap.size ≤ w2_.heap.size from hb.size))
  obtain ⟨A_WS, c_WS, ev_, hc_WS, hA_WS⟩ := AR_of_S (base := w.heap.size) ho (show w.heap.size ≤ w1_.heap.size from (by have h_ := ZZ.out; omega))
  subst ev_
  have HC_WS := Aside0.mk hc_WS
  have WS := Aside0.mk (show AR w.heap.size w2_ w1_.heap.size w2_.heap.size A_WS W from hA_WS)
  clear hc_WS hA_WS ho
  clear hb
  go_wp2_with (first | ((with_reducible refine gate_dst (N := 3) rfl ?_); refine hold_here ?_))
  refine hold_go ?_
  refine box_event (N := 3) (cs := #[.int .i64 0, .int .i64 0, .slice none 0 0]) (t := 50) ?hgb rfl ?hrb ?_
  case hgb => rfl
  case hrb => first | (go_simp; done) | (go_simp; rfl)
  intro g3_ hg w3_ hbox hb
  replace BK2 := Aside0.mk (blk_below BK2.out hb)
  replace WS := Aside0.mk (AR.below WS.out hb)
  replace HB := Aside0.mk (below_step HB.out hb)
  replace ZZ := Aside0.mk (And.intro ZZ.out (show w2_.heap.size ≤ w3_.heap.size from hb.size))
  have BK3 := Aside0.mk hbox
  replace ZZ := Aside0.mk (And.intro ZZ.out (And.intro (show g3_ = w2_.heap.size from hg) (show g3_ < w3_.heap.size from blk_lt hbox)))
  clear hb hbox hg
  have hz_BK3_0 : w3_.cell? ⟨g3_, 0, none⟩ = some (.int .i64 0) := (blk_cell BK3.out 0).trans rfl
  have hz_BK3_1 : w3_.cell? ⟨g3_, 1, none⟩ = some (.int .i64 0) := (blk_cell BK3.out 1).trans rfl
  have hz_BK3_2 : w3_.cell? ⟨g3_, 2, none⟩ = some (.slice none 0 0) := (blk_cell BK3.out 2).trans rfl
  go_wp2_with (first | ((with_reducible refine gate_store (t := 50) (p := 3) (v := .tmp 7) rfl ?_); refine hold_here ?_))
  refine hold_go ?_
  refine row_store rfl 50 (.tmp 3) (.tmp 7) rfl g3_ #[.int .i64 q0, .int .i64 q1, .slice A_WS W.length c_WS] rfl ?hy 50 _ BK3.out ?hi ?ho ?h1 rfl HB.out (show w.heap.size ≤ g3_ from (by have h_ := ZZ.out; omega)) ?_
  case hy => rfl
  case hi => kernel_rfl
  case ho => rfl
  case h1 => first | rfl | (simp [Value.oneCell']; done) | (go_simp; done)
  intro w4_ bo hk hb2
  clear BK3
  replace BK2 := Aside0.mk (blk_keptIn BK2.out hk (by have h_ := ZZ.out; omega))
  replace WS := Aside0.mk (AR.kept WS.out hk (by have h_ := ZZ.out; omega))
  replace HB := Aside0.mk hb2
  clear hz_BK3_0 hz_BK3_1 hz_BK3_2
  replace ZZ := Aside0.mk (And.intro ZZ.out (show w3_.heap.size ≤ w4_.heap.size from hk.1))
  have BK3 := Aside0.mk bo
  clear bo hk hb2
  have hz_BK3_0 : w4_.cell? ⟨g3_, 0, none⟩ = some (.int .i64 q0) := (blk_cell BK3.out 0).trans rfl
  have hz_BK3_1 : w4_.cell? ⟨g3_, 1, none⟩ = some (.int .i64 q1) := (blk_cell BK3.out 1).trans rfl
  have hz_BK3_2 : w4_.cell? ⟨g3_, 2, none⟩ = some (.slice A_WS W.length c_WS) := (blk_cell BK3.out 2).trans rfl
  go_wp2_with (first | ((with_reducible refine gate_store (t := 81) (p := 2) (v := .tmp 46) rfl ?_); refine hold_here ?_))
  refine hold_go ?_
  refine row_store rfl 81 (.tmp 2) (.tmp 46) rfl g2_ #[.int .i64 5, .slice none 0 0, .int .i64 0, .int .i64 0, .int .i64 0, .slice none 0 0, .int .i64 0] rfl ?hy 81 _ BK2.out ?hi ?ho ?h1 rfl HB.out (show w.heap.size ≤ g2_ from (by have h_ := ZZ.out; omega)) ?_
  case hy => rfl
  case hi => kernel_rfl
  case ho => rfl
  case h1 => first | rfl | (simp [Value.oneCell']; done) | (go_simp; done)
  intro w5_ bo hk hb2
  clear BK2
  replace WS := Aside0.mk (AR.kept WS.out hk (by have h_ := ZZ.out; omega))
  replace BK3 := Aside0.mk (blk_keptIn BK3.out hk (by have h_ := ZZ.out; omega))
  replace HB := Aside0.mk hb2
  clear hz_BK3_0 hz_BK3_1 hz_BK3_2
  replace ZZ := Aside0.mk (And.intro ZZ.out (show w4_.heap.size ≤ w5_.heap.size from hk.1))
  have BK2 := Aside0.mk bo
  clear bo hk hb2
  have hz_BK3_0 : w5_.cell? ⟨g3_, 0, none⟩ = some (.int .i64 q0) := (blk_cell BK3.out 0).trans rfl
  have hz_BK3_1 : w5_.cell? ⟨g3_, 1, none⟩ = some (.int .i64 q1) := (blk_cell BK3.out 1).trans rfl
  have hz_BK3_2 : w5_.cell? ⟨g3_, 2, none⟩ = some (.slice A_WS W.length c_WS) := (blk_cell BK3.out 2).trans rfl
  go_wp2
  refine bodyPost_ret (results_cell_row rfl _ _ g2_ 81 #[.int .i64 5, .slice none 0 0, .int .i64 0, .int .i64 0, .int .i64 0, .slice none 0 0, .int .i64 0] (0, 0) _ rfl BK2.out Try.underlying81 rfl (by kernel_rfl)) rfl ?_
  exact ⟨_, _, rfl, Kd.R_nil _ _ _ _ _, Kd.R_nil _ _ _ _ _, HB.out⟩
set_option maxHeartbeats 80000000 in
set_option maxRecDepth 100000 in
theorem spec_UnpackHead_B (ku : Nat) (A0 : Option Addr) (c0 : Nat) (l0 : List Int) (q0 q1 : Int) (v0 v1 v2 v3 v4 v5 : List Int) (w : World) (hr0 : Kd.C (Kd.int .u8) w A0 l0.length l0) (hc0 : l0.length ≤ c0) (h_u : spec_UnpackWords.f ku l0 = some (q0, q1, [v0, v1, v2, v3, v4, v5])) (h_q : q0 = 0) (h_b : ¬ (v1.length = 7 ∧ v2.length = 7 ∧ v3.length = 7 ∧ v5.length = 7)) :
    Calls Try.prog 68 #[.slice A0 l0.length c0] w fun e w' => ∃ v u : Value, e = .returned (.agg #[.int .i64 5, v, .int .i64 0, .int .i64 0, .int .i64 0, u, .int .i64 0]) ∧ Kd.R (Kd.int .u8) 5 w' w.heap.size (fun k_ => some k_ ≠ (u : Value).ownBlock) v ([] : List Int) ∧ Kd.R (Kd.int .u8) 5 w' w.heap.size (fun k_ => some k_ ≠ (v : Value).ownBlock) u ([] : List Int) ∧ Below w.heap.size w w' := by
  have hu0_ := Try.underlying81
  have hu1_ := Try.underlying33
  have hu2_ := Try.underlying50
  have hu3_ := Try.underlying24
  have hu4_ := Try.underlying46
  have HR0 := Aside0.mk hr0
  have HC0 := Aside0.mk hc0
  have H_u := Aside0.mk h_u
  have H_q := Aside0.mk h_q
  have H_b := Aside0.mk h_b
  have HB := Aside0.mk (Below.refl w.heap.size w)
  have ZZ := Aside0.mk (Nat.le_refl w.heap.size)
  have cq0_ : (q0 == 0) = true := beq_iff_eq.2 h_q
  have cq1_ : (q0 != 0) = false := bne_eq_false_iff_eq.2 h_q
  clear hr0 hc0 h_u h_q h_b
  go_enter Try.func68, Try.ntmps68
  go_wp2_with (first | ((with_reducible refine gate_dst (N := 2) rfl ?_); refine hold_here ?_))
  refine hold_go ?_
  refine box_event (N := 2) (cs := #[.int .i64 0, .slice none 0 0, .int .i64 0, .int .i64 0, .int .i64 0, .slice none 0 0, .int .i64 0]) (t := 81) ?hgb rfl ?hrb ?_
  case hgb => rfl
  case hrb => first | (go_simp; done) | (go_simp; rfl)
  intro g2_ hg w1_ hbox hb
  replace HB := Aside0.mk (below_step HB.out hb)
  replace ZZ := Aside0.mk (And.intro ZZ.out (show w.heap.size ≤ w1_.heap.size from hb.size))
  have BK2 := Aside0.mk hbox
  replace ZZ := Aside0.mk (And.intro ZZ.out (And.intro (show g2_ = w.heap.size from hg) (show g2_ < w1_.heap.size from blk_lt hbox)))
  clear hb hbox hg
  go_wp2_with (first | (go_at_call 36; refine hold_here ?_))
  refine hold_go ?_
  refine (spec_UnpackWords.calls _ A0 c0 l0 q0 q1 [v0, v1, v2, v3, v4, v5] _ ?s1 ?s2 H_u.out).mono ?_
  case s1 => exact Kd.C_below HR0.out HB.out
  case s2 => exact HC0.out
  rintro e w2_ ⟨v, rfl, ho, hb⟩
  replace BK2 := Aside0.mk (blk_below BK2.out hb)
  replace HB := Aside0.mk (below_step HB.out hb)
  replace ZZ := Aside0.mk (And.intro ZZ.out (show w1_.heap.size ≤ w2_.heap.size from hb.size))
  obtain ⟨gw_, cw_, B0_, B1_, B2_, B3_, B4_, B5_, d0_, d1_, d2_, d3_, d4_, d5_, ev_, hcw_, hw0_, hw1_, hw2_, hw3_, hw4_, hw5_, hPA_, hRO_, hap_⟩ := head_words (base := w.heap.size) ho (by have h_ := ZZ.out; omega)
  subst ev_
  have PA := Aside0.mk hPA_
  have RO := Aside0.mk hRO_
  have HAP := Aside0.mk hap_
  have HCW := Aside0.mk hcw_
  have HW0 := Aside0.mk hw0_
  have HW1 := Aside0.mk hw1_
  have HW2 := Aside0.mk hw2_
  have HW3 := Aside0.mk hw3_
  have HW4 := Aside0.mk hw4_
  have HW5 := Aside0.mk hw5_
  clear hPA_ hRO_ hap_ hcw_ ho hw0_ hw1_ hw2_ hw3_ hw4_ hw5_
  clear hb
  have BW := Aside0.mk (Below.refl w2_.heap.size w2_)
  go_wp2_with (first | ((with_reducible refine gate_dst (N := 3) rfl ?_); refine hold_here ?_))
  refine hold_go ?_
  refine box_event (N := 3) (cs := #[.int .i64 0, .int .i64 0, .slice none 0 0]) (t := 50) ?hgb rfl ?hrb ?_
  case hgb => rfl
  case hrb => first | (go_simp; done) | (go_simp; rfl)
  intro g3_ hg w3_ hbox hb
  replace BK2 := Aside0.mk (blk_below BK2.out hb)
  replace PA := Aside0.mk (Kd.R_below PA.out hb)
  replace RO := Aside0.mk (Kd.R_below RO.out hb)
  replace BW := Aside0.mk (below_step BW.out hb)
  replace HB := Aside0.mk (below_step HB.out hb)
  replace ZZ := Aside0.mk (And.intro ZZ.out (show w2_.heap.size ≤ w3_.heap.size from hb.size))
  have BK3 := Aside0.mk hbox
  replace ZZ := Aside0.mk (And.intro ZZ.out (And.intro (show g3_ = w2_.heap.size from hg) (show g3_ < w3_.heap.size from blk_lt hbox)))
  clear hb hbox hg
  have hz_BK3_0 : w3_.cell? ⟨g3_, 0, none⟩ = some (.int .i64 0) := (blk_cell BK3.out 0).trans rfl
  have hz_BK3_1 : w3_.cell? ⟨g3_, 1, none⟩ = some (.int .i64 0) := (blk_cell BK3.out 1).trans rfl
  have hz_BK3_2 : w3_.cell? ⟨g3_, 2, none⟩ = some (.slice none 0 0) := (blk_cell BK3.out 2).trans rfl
  go_wp2_with (first | ((with_reducible refine gate_store (t := 50) (p := 3) (v := .tmp 7) rfl ?_); refine hold_here ?_))
  refine hold_go ?_
  refine row_store rfl 50 (.tmp 3) (.tmp 7) rfl g3_ #[.int .i64 q0, .int .i64 q1, .slice (some ⟨gw_, 0, none⟩) 6 cw_] rfl ?hy 50 _ BK3.out ?hi ?ho ?h1 rfl HB.out (show w.heap.size ≤ g3_ from (by have h_ := ZZ.out; omega)) ?_
  case hy => rfl
  case hi => kernel_rfl
  case ho => rfl
  case h1 => first | rfl | (simp [Value.oneCell']; done) | (go_simp; done)
  intro w4_ bo hk hb2
  clear BK3
  replace BK2 := Aside0.mk (blk_keptIn BK2.out hk (by have h_ := ZZ.out; omega))
  replace PA := Aside0.mk (B_kept PA.out hk (by have h_ := ZZ.out; omega))
  replace RO := Aside0.mk (B_kept RO.out hk (by have h_ := ZZ.out; omega))
  replace BW := Aside0.mk (below_keptIn BW.out hk (by have h_ := ZZ.out; omega) HB.out hb2)
  replace HB := Aside0.mk hb2
  clear hz_BK3_0 hz_BK3_1 hz_BK3_2
  replace ZZ := Aside0.mk (And.intro ZZ.out (show w3_.heap.size ≤ w4_.heap.size from hk.1))
  have BK3 := Aside0.mk bo
  clear bo hk hb2
  have hz_BK3_0 : w4_.cell? ⟨g3_, 0, none⟩ = some (.int .i64 q0) := (blk_cell BK3.out 0).trans rfl
  have hz_BK3_1 : w4_.cell? ⟨g3_, 1, none⟩ = some (.int .i64 q1) := (blk_cell BK3.out 1).trans rfl
  have hz_BK3_2 : w4_.cell? ⟨g3_, 2, none⟩ = some (.slice (some ⟨gw_, 0, none⟩) 6 cw_) := (blk_cell BK3.out 2).trans rfl
  have hx1_ := (BW.out.cell (World.block_lt_of_cell? _ _ HW1.out.1)).trans HW1.out.1
  have hx2_ := (BW.out.cell (World.block_lt_of_cell? _ _ HW2.out.1)).trans HW2.out.1
  have hx3_ := (BW.out.cell (World.block_lt_of_cell? _ _ HW3.out.1)).trans HW3.out.1
  have hx5_ := (BW.out.cell (World.block_lt_of_cell? _ _ HW5.out.1)).trans HW5.out.1
  by_cases hg1_ : v1.length = 7
  rotate_left
  · have cg1_ : ((v1.length : Int) != 7) = true := bne_iff_ne.2 (by omega)
    clear hg1_
    clear BW
    go_wp2_with (first | ((with_reducible refine gate_store (t := 81) (p := 2) (v := .tmp 46) rfl ?_); refine hold_here ?_))
    refine hold_go ?_
    refine row_store rfl 81 (.tmp 2) (.tmp 46) rfl g2_ #[.int .i64 5, .slice none 0 0, .int .i64 0, .int .i64 0, .int .i64 0, .slice none 0 0, .int .i64 0] rfl ?hy 81 _ BK2.out ?hi ?ho ?h1 rfl HB.out (show w.heap.size ≤ g2_ from (by have h_ := ZZ.out; omega)) ?_
    case hy => rfl
    case hi => kernel_rfl
    case ho => rfl
    case h1 => first | rfl | (simp [Value.oneCell']; done) | (go_simp; done)
    intro w5_ bo hk hb2
    clear BK2
    replace PA := Aside0.mk (B_kept PA.out hk (by have h_ := ZZ.out; omega))
    replace RO := Aside0.mk (B_kept RO.out hk (by have h_ := ZZ.out; omega))
    replace BK3 := Aside0.mk (blk_keptIn BK3.out hk (by have h_ := ZZ.out; omega))
    replace HB := Aside0.mk hb2
    clear hz_BK3_0 hz_BK3_1 hz_BK3_2
    replace ZZ := Aside0.mk (And.intro ZZ.out (show w4_.heap.size ≤ w5_.heap.size from hk.1))
    have BK2 := Aside0.mk bo
    clear bo hk hb2
    have hz_BK3_0 : w5_.cell? ⟨g3_, 0, none⟩ = some (.int .i64 q0) := (blk_cell BK3.out 0).trans rfl
    have hz_BK3_1 : w5_.cell? ⟨g3_, 1, none⟩ = some (.int .i64 q1) := (blk_cell BK3.out 1).trans rfl
    have hz_BK3_2 : w5_.cell? ⟨g3_, 2, none⟩ = some (.slice (some ⟨gw_, 0, none⟩) 6 cw_) := (blk_cell BK3.out 2).trans rfl
    go_wp2
    refine bodyPost_ret (results_cell_row rfl _ _ g2_ 81 #[.int .i64 5, .slice none 0 0, .int .i64 0, .int .i64 0, .int .i64 0, .slice none 0 0, .int .i64 0] (0, 0) _ rfl BK2.out Try.underlying81 rfl (by kernel_rfl)) rfl ?_
    exact ⟨_, _, rfl, Kd.R_nil _ _ _ _ _, Kd.R_nil _ _ _ _ _, HB.out⟩
  have cg1_ : ((v1.length : Int) != 7) = false := bne_eq_false_iff_eq.2 (by omega)
  by_cases hg2_ : v2.length = 7
  rotate_left
  · have cg2_ : ((v2.length : Int) != 7) = true := bne_iff_ne.2 (by omega)
    clear hg1_ hg2_
    clear BW
    go_wp2_with (first | ((with_reducible refine gate_store (t := 81) (p := 2) (v := .tmp 46) rfl ?_); refine hold_here ?_))
    refine hold_go ?_
    refine row_store rfl 81 (.tmp 2) (.tmp 46) rfl g2_ #[.int .i64 5, .slice none 0 0, .int .i64 0, .int .i64 0, .int .i64 0, .slice none 0 0, .int .i64 0] rfl ?hy 81 _ BK2.out ?hi ?ho ?h1 rfl HB.out (show w.heap.size ≤ g2_ from (by have h_ := ZZ.out; omega)) ?_
    case hy => rfl
    case hi => kernel_rfl
    case ho => rfl
    case h1 => first | rfl | (simp [Value.oneCell']; done) | (go_simp; done)
    intro w5_ bo hk hb2
    clear BK2
    replace PA := Aside0.mk (B_kept PA.out hk (by have h_ := ZZ.out; omega))
    replace RO := Aside0.mk (B_kept RO.out hk (by have h_ := ZZ.out; omega))
    replace BK3 := Aside0.mk (blk_keptIn BK3.out hk (by have h_ := ZZ.out; omega))
    replace HB := Aside0.mk hb2
    clear hz_BK3_0 hz_BK3_1 hz_BK3_2
    replace ZZ := Aside0.mk (And.intro ZZ.out (show w4_.heap.size ≤ w5_.heap.size from hk.1))
    have BK2 := Aside0.mk bo
    clear bo hk hb2
    have hz_BK3_0 : w5_.cell? ⟨g3_, 0, none⟩ = some (.int .i64 q0) := (blk_cell BK3.out 0).trans rfl
    have hz_BK3_1 : w5_.cell? ⟨g3_, 1, none⟩ = some (.int .i64 q1) := (blk_cell BK3.out 1).trans rfl
    have hz_BK3_2 : w5_.cell? ⟨g3_, 2, none⟩ = some (.slice (some ⟨gw_, 0, none⟩) 6 cw_) := (blk_cell BK3.out 2).trans rfl
    go_wp2
    refine bodyPost_ret (results_cell_row rfl _ _ g2_ 81 #[.int .i64 5, .slice none 0 0, .int .i64 0, .int .i64 0, .int .i64 0, .slice none 0 0, .int .i64 0] (0, 0) _ rfl BK2.out Try.underlying81 rfl (by kernel_rfl)) rfl ?_
    exact ⟨_, _, rfl, Kd.R_nil _ _ _ _ _, Kd.R_nil _ _ _ _ _, HB.out⟩
  have cg2_ : ((v2.length : Int) != 7) = false := bne_eq_false_iff_eq.2 (by omega)
  by_cases hg3_ : v3.length = 7
  rotate_left
  · have cg3_ : ((v3.length : Int) != 7) = true := bne_iff_ne.2 (by omega)
    clear hg1_ hg2_ hg3_
    clear BW
    go_wp2_with (first | ((with_reducible refine gate_store (t := 81) (p := 2) (v := .tmp 46) rfl ?_); refine hold_here ?_))
    refine hold_go ?_
    refine row_store rfl 81 (.tmp 2) (.tmp 46) rfl g2_ #[.int .i64 5, .slice none 0 0, .int .i64 0, .int .i64 0, .int .i64 0, .slice none 0 0, .int .i64 0] rfl ?hy 81 _ BK2.out ?hi ?ho ?h1 rfl HB.out (show w.heap.size ≤ g2_ from (by have h_ := ZZ.out; omega)) ?_
    case hy => rfl
    case hi => kernel_rfl
    case ho => rfl
    case h1 => first | rfl | (simp [Value.oneCell']; done) | (go_simp; done)
    intro w5_ bo hk hb2
    clear BK2
    replace PA := Aside0.mk (B_kept PA.out hk (by have h_ := ZZ.out; omega))
    replace RO := Aside0.mk (B_kept RO.out hk (by have h_ := ZZ.out; omega))
    replace BK3 := Aside0.mk (blk_keptIn BK3.out hk (by have h_ := ZZ.out; omega))
    replace HB := Aside0.mk hb2
    clear hz_BK3_0 hz_BK3_1 hz_BK3_2
    replace ZZ := Aside0.mk (And.intro ZZ.out (show w4_.heap.size ≤ w5_.heap.size from hk.1))
    have BK2 := Aside0.mk bo
    clear bo hk hb2
    have hz_BK3_0 : w5_.cell? ⟨g3_, 0, none⟩ = some (.int .i64 q0) := (blk_cell BK3.out 0).trans rfl
    have hz_BK3_1 : w5_.cell? ⟨g3_, 1, none⟩ = some (.int .i64 q1) := (blk_cell BK3.out 1).trans rfl
    have hz_BK3_2 : w5_.cell? ⟨g3_, 2, none⟩ = some (.slice (some ⟨gw_, 0, none⟩) 6 cw_) := (blk_cell BK3.out 2).trans rfl
    go_wp2
    refine bodyPost_ret (results_cell_row rfl _ _ g2_ 81 #[.int .i64 5, .slice none 0 0, .int .i64 0, .int .i64 0, .int .i64 0, .slice none 0 0, .int .i64 0] (0, 0) _ rfl BK2.out Try.underlying81 rfl (by kernel_rfl)) rfl ?_
    exact ⟨_, _, rfl, Kd.R_nil _ _ _ _ _, Kd.R_nil _ _ _ _ _, HB.out⟩
  have cg3_ : ((v3.length : Int) != 7) = false := bne_eq_false_iff_eq.2 (by omega)
  by_cases hg5_ : v5.length = 7
  rotate_left
  · have cg5_ : ((v5.length : Int) != 7) = true := bne_iff_ne.2 (by omega)
    clear hg1_ hg2_ hg3_ hg5_
    clear BW
    go_wp2_with (first | ((with_reducible refine gate_store (t := 81) (p := 2) (v := .tmp 46) rfl ?_); refine hold_here ?_))
    refine hold_go ?_
    refine row_store rfl 81 (.tmp 2) (.tmp 46) rfl g2_ #[.int .i64 5, .slice none 0 0, .int .i64 0, .int .i64 0, .int .i64 0, .slice none 0 0, .int .i64 0] rfl ?hy 81 _ BK2.out ?hi ?ho ?h1 rfl HB.out (show w.heap.size ≤ g2_ from (by have h_ := ZZ.out; omega)) ?_
    case hy => rfl
    case hi => kernel_rfl
    case ho => rfl
    case h1 => first | rfl | (simp [Value.oneCell']; done) | (go_simp; done)
    intro w5_ bo hk hb2
    clear BK2
    replace PA := Aside0.mk (B_kept PA.out hk (by have h_ := ZZ.out; omega))
    replace RO := Aside0.mk (B_kept RO.out hk (by have h_ := ZZ.out; omega))
    replace BK3 := Aside0.mk (blk_keptIn BK3.out hk (by have h_ := ZZ.out; omega))
    replace HB := Aside0.mk hb2
    clear hz_BK3_0 hz_BK3_1 hz_BK3_2
    replace ZZ := Aside0.mk (And.intro ZZ.out (show w4_.heap.size ≤ w5_.heap.size from hk.1))
    have BK2 := Aside0.mk bo
    clear bo hk hb2
    have hz_BK3_0 : w5_.cell? ⟨g3_, 0, none⟩ = some (.int .i64 q0) := (blk_cell BK3.out 0).trans rfl
    have hz_BK3_1 : w5_.cell? ⟨g3_, 1, none⟩ = some (.int .i64 q1) := (blk_cell BK3.out 1).trans rfl
    have hz_BK3_2 : w5_.cell? ⟨g3_, 2, none⟩ = some (.slice (some ⟨gw_, 0, none⟩) 6 cw_) := (blk_cell BK3.out 2).trans rfl
    go_wp2
    refine bodyPost_ret (results_cell_row rfl _ _ g2_ 81 #[.int .i64 5, .slice none 0 0, .int .i64 0, .int .i64 0, .int .i64 0, .slice none 0 0, .int .i64 0] (0, 0) _ rfl BK2.out Try.underlying81 rfl (by kernel_rfl)) rfl ?_
    exact ⟨_, _, rfl, Kd.R_nil _ _ _ _ _, Kd.R_nil _ _ _ _ _, HB.out⟩
  have cg5_ : ((v5.length : Int) != 7) = false := bne_eq_false_iff_eq.2 (by omega)
  exact absurd ⟨hg1_, hg2_, hg3_, hg5_⟩ H_b.out
set_option maxHeartbeats 80000000 in
set_option maxRecDepth 100000 in
theorem spec_UnpackHead_D (ku : Nat) (A0 : Option Addr) (c0 : Nat) (l0 : List Int) (q0 q1 : Int) (v0 v1 v2 v3 v4 v5 : List Int) (n1 n2 n3 n5 : Int) (k1 k2 k3 k5 kp : Nat) (ff : Int) (w : World) (hr0 : Kd.C (Kd.int .u8) w A0 l0.length l0) (hc0 : l0.length ≤ c0) (h_u : spec_UnpackWords.f ku l0 = some (q0, q1, [v0, v1, v2, v3, v4, v5])) (h_q : q0 = 0) (h_g1 : v1.length = 7) (h_g2 : v2.length = 7) (h_g3 : v3.length = 7) (h_g5 : v5.length = 7) (h_n1 : spec_l1Number.f k1 v1 = some n1) (h_n2 : spec_l1Number.f k2 v2 = some n2) (h_n3 : spec_l1Number.f k3 v3 = some n3) (h_n5 : spec_l1Number.f k5 v5 = some n5) (h_p : spec_HeadFault.f kp v0 n1 n2 n3 v4 n5 = some ff) :
    Calls Try.prog 68 #[.slice A0 l0.length c0] w fun e w' => ∃ v u : Value, e = .returned (.agg #[.int .i64 (if ff = 0 then 0 else 5), v, .int .i64 (if ff = 0 then n1 else 0), .int .i64 (if ff = 0 then n2 else 0), .int .i64 (if ff = 0 then n3 else 0), u, .int .i64 (if ff = 0 then n5 else 0)]) ∧ Kd.R (Kd.int .u8) 5 w' w.heap.size (fun k_ => some k_ ≠ (u : Value).ownBlock) v (if ff = 0 then v0 else []) ∧ Kd.R (Kd.int .u8) 5 w' w.heap.size (fun k_ => some k_ ≠ (v : Value).ownBlock) u (if ff = 0 then v4 else []) ∧ Below w.heap.size w w' := by
  have hu0_ := Try.underlying81
  have hu1_ := Try.underlying33
  have hu2_ := Try.underlying50
  have hu3_ := Try.underlying24
  have hu4_ := Try.underlying46
  have HR0 := Aside0.mk hr0
  have HC0 := Aside0.mk hc0
  have H_u := Aside0.mk h_u
  have H_q := Aside0.mk h_q
  have H_g1 := Aside0.mk h_g1
  have H_g2 := Aside0.mk h_g2
  have H_g3 := Aside0.mk h_g3
  have H_g5 := Aside0.mk h_g5
  have H_n1 := Aside0.mk h_n1
  have H_n2 := Aside0.mk h_n2
  have H_n3 := Aside0.mk h_n3
  have H_n5 := Aside0.mk h_n5
  have H_p := Aside0.mk h_p
  have HB := Aside0.mk (Below.refl w.heap.size w)
  have ZZ := Aside0.mk (Nat.le_refl w.heap.size)
  have cq0_ : (q0 == 0) = true := beq_iff_eq.2 h_q
  have cq1_ : (q0 != 0) = false := bne_eq_false_iff_eq.2 h_q
  have cg1_ : ((v1.length : Int) != 7) = false := bne_eq_false_iff_eq.2 (by omega)
  have ch1_ : ((v1.length : Int) == 7) = true := beq_iff_eq.2 (by omega)
  have cg2_ : ((v2.length : Int) != 7) = false := bne_eq_false_iff_eq.2 (by omega)
  have ch2_ : ((v2.length : Int) == 7) = true := beq_iff_eq.2 (by omega)
  have cg3_ : ((v3.length : Int) != 7) = false := bne_eq_false_iff_eq.2 (by omega)
  have ch3_ : ((v3.length : Int) == 7) = true := beq_iff_eq.2 (by omega)
  have cg5_ : ((v5.length : Int) != 7) = false := bne_eq_false_iff_eq.2 (by omega)
  have ch5_ : ((v5.length : Int) == 7) = true := beq_iff_eq.2 (by omega)
  clear hr0 hc0 h_u h_q h_g1 h_g2 h_g3 h_g5 h_n1 h_n2 h_n3 h_n5 h_p
  go_enter Try.func68, Try.ntmps68
  go_wp2_with (first | ((with_reducible refine gate_dst (N := 2) rfl ?_); refine hold_here ?_))
  refine hold_go ?_
  refine box_event (N := 2) (cs := #[.int .i64 0, .slice none 0 0, .int .i64 0, .int .i64 0, .int .i64 0, .slice none 0 0, .int .i64 0]) (t := 81) ?hgb rfl ?hrb ?_
  case hgb => rfl
  case hrb => first | (go_simp; done) | (go_simp; rfl)
  intro g2_ hg w1_ hbox hb
  replace HB := Aside0.mk (below_step HB.out hb)
  replace ZZ := Aside0.mk (And.intro ZZ.out (show w.heap.size ≤ w1_.heap.size from hb.size))
  have BK2 := Aside0.mk hbox
  replace ZZ := Aside0.mk (And.intro ZZ.out (And.intro (show g2_ = w.heap.size from hg) (show g2_ < w1_.heap.size from blk_lt hbox)))
  clear hb hbox hg
  go_wp2_with (first | (go_at_call 36; refine hold_here ?_))
  refine hold_go ?_
  refine (spec_UnpackWords.calls _ A0 c0 l0 q0 q1 [v0, v1, v2, v3, v4, v5] _ ?s1 ?s2 H_u.out).mono ?_
  case s1 => exact Kd.C_below HR0.out HB.out
  case s2 => exact HC0.out
  rintro e w2_ ⟨v, rfl, ho, hb⟩
  replace BK2 := Aside0.mk (blk_below BK2.out hb)
  replace HB := Aside0.mk (below_step HB.out hb)
  replace ZZ := Aside0.mk (And.intro ZZ.out (show w1_.heap.size ≤ w2_.heap.size from hb.size))
  obtain ⟨gw_, cw_, B0_, B1_, B2_, B3_, B4_, B5_, d0_, d1_, d2_, d3_, d4_, d5_, ev_, hcw_, hw0_, hw1_, hw2_, hw3_, hw4_, hw5_, hPA_, hRO_, hap_⟩ := head_words (base := w.heap.size) ho (by have h_ := ZZ.out; omega)
  subst ev_
  have PA := Aside0.mk hPA_
  have RO := Aside0.mk hRO_
  have HAP := Aside0.mk hap_
  have HCW := Aside0.mk hcw_
  have HW0 := Aside0.mk hw0_
  have HW1 := Aside0.mk hw1_
  have HW2 := Aside0.mk hw2_
  have HW3 := Aside0.mk hw3_
  have HW4 := Aside0.mk hw4_
  have HW5 := Aside0.mk hw5_
  clear hPA_ hRO_ hap_ hcw_ ho hw0_ hw1_ hw2_ hw3_ hw4_ hw5_
  clear hb
  have BW := Aside0.mk (Below.refl w2_.heap.size w2_)
  go_wp2_with (first | ((with_reducible refine gate_dst (N := 3) rfl ?_); refine hold_here ?_))
  refine hold_go ?_
  refine box_event (N := 3) (cs := #[.int .i64 0, .int .i64 0, .slice none 0 0]) (t := 50) ?hgb rfl ?hrb ?_
  case hgb => rfl
  case hrb => first | (go_simp; done) | (go_simp; rfl)
  intro g3_ hg w3_ hbox hb
  replace BK2 := Aside0.mk (blk_below BK2.out hb)
  replace PA := Aside0.mk (Kd.R_below PA.out hb)
  replace RO := Aside0.mk (Kd.R_below RO.out hb)
  replace BW := Aside0.mk (below_step BW.out hb)
  replace HB := Aside0.mk (below_step HB.out hb)
  replace ZZ := Aside0.mk (And.intro ZZ.out (show w2_.heap.size ≤ w3_.heap.size from hb.size))
  have BK3 := Aside0.mk hbox
  replace ZZ := Aside0.mk (And.intro ZZ.out (And.intro (show g3_ = w2_.heap.size from hg) (show g3_ < w3_.heap.size from blk_lt hbox)))
  clear hb hbox hg
  have hz_BK3_0 : w3_.cell? ⟨g3_, 0, none⟩ = some (.int .i64 0) := (blk_cell BK3.out 0).trans rfl
  have hz_BK3_1 : w3_.cell? ⟨g3_, 1, none⟩ = some (.int .i64 0) := (blk_cell BK3.out 1).trans rfl
  have hz_BK3_2 : w3_.cell? ⟨g3_, 2, none⟩ = some (.slice none 0 0) := (blk_cell BK3.out 2).trans rfl
  go_wp2_with (first | ((with_reducible refine gate_store (t := 50) (p := 3) (v := .tmp 7) rfl ?_); refine hold_here ?_))
  refine hold_go ?_
  refine row_store rfl 50 (.tmp 3) (.tmp 7) rfl g3_ #[.int .i64 q0, .int .i64 q1, .slice (some ⟨gw_, 0, none⟩) 6 cw_] rfl ?hy 50 _ BK3.out ?hi ?ho ?h1 rfl HB.out (show w.heap.size ≤ g3_ from (by have h_ := ZZ.out; omega)) ?_
  case hy => rfl
  case hi => kernel_rfl
  case ho => rfl
  case h1 => first | rfl | (simp [Value.oneCell']; done) | (go_simp; done)
  intro w4_ bo hk hb2
  clear BK3
  replace BK2 := Aside0.mk (blk_keptIn BK2.out hk (by have h_ := ZZ.out; omega))
  replace PA := Aside0.mk (B_kept PA.out hk (by have h_ := ZZ.out; omega))
  replace RO := Aside0.mk (B_kept RO.out hk (by have h_ := ZZ.out; omega))
  replace BW := Aside0.mk (below_keptIn BW.out hk (by have h_ := ZZ.out; omega) HB.out hb2)
  replace HB := Aside0.mk hb2
  clear hz_BK3_0 hz_BK3_1 hz_BK3_2
  replace ZZ := Aside0.mk (And.intro ZZ.out (show w3_.heap.size ≤ w4_.heap.size from hk.1))
  have BK3 := Aside0.mk bo
  clear bo hk hb2
  have hz_BK3_0 : w4_.cell? ⟨g3_, 0, none⟩ = some (.int .i64 q0) := (blk_cell BK3.out 0).trans rfl
  have hz_BK3_1 : w4_.cell? ⟨g3_, 1, none⟩ = some (.int .i64 q1) := (blk_cell BK3.out 1).trans rfl
  have hz_BK3_2 : w4_.cell? ⟨g3_, 2, none⟩ = some (.slice (some ⟨gw_, 0, none⟩) 6 cw_) := (blk_cell BK3.out 2).trans rfl
  have hx1_ := (BW.out.cell (World.block_lt_of_cell? _ _ HW1.out.1)).trans HW1.out.1
  have hx2_ := (BW.out.cell (World.block_lt_of_cell? _ _ HW2.out.1)).trans HW2.out.1
  have hx3_ := (BW.out.cell (World.block_lt_of_cell? _ _ HW3.out.1)).trans HW3.out.1
  have hx5_ := (BW.out.cell (World.block_lt_of_cell? _ _ HW5.out.1)).trans HW5.out.1
  try go_wp2_with fail
  clear hx1_ hx2_ hx3_ hx5_
  replace BK2 := Aside0.mk (blk_drew BK2.out)
  replace PA := Aside0.mk (Kd.R_drew PA.out)
  replace RO := Aside0.mk (Kd.R_drew RO.out)
  replace BW := Aside0.mk (below_drew1 BW.out)
  replace BK3 := Aside0.mk (blk_drew BK3.out)
  replace HB := Aside0.mk (below_drew1 HB.out)
  replace ZZ := Aside0.mk (And.intro ZZ.out (show w4_.heap.size ≤ w4_.drew.heap.size from Nat.le_refl _))
  clear hz_BK3_0 hz_BK3_1 hz_BK3_2
  have HX0 := Aside0.mk (show w4_.drew.cell? ⟨gw_, 0, none⟩ = some (.slice B0_ v0.length d0_) from (BW.out.cell (World.block_lt_of_cell? _ _ HW0.out.1)).trans HW0.out.1)
  have HX1 := Aside0.mk (show w4_.drew.cell? ⟨gw_, 1, none⟩ = some (.slice B1_ v1.length d1_) from (BW.out.cell (World.block_lt_of_cell? _ _ HW1.out.1)).trans HW1.out.1)
  have HX2 := Aside0.mk (show w4_.drew.cell? ⟨gw_, 2, none⟩ = some (.slice B2_ v2.length d2_) from (BW.out.cell (World.block_lt_of_cell? _ _ HW2.out.1)).trans HW2.out.1)
  have HX3 := Aside0.mk (show w4_.drew.cell? ⟨gw_, 3, none⟩ = some (.slice B3_ v3.length d3_) from (BW.out.cell (World.block_lt_of_cell? _ _ HW3.out.1)).trans HW3.out.1)
  have HX4 := Aside0.mk (show w4_.drew.cell? ⟨gw_, 4, none⟩ = some (.slice B4_ v4.length d4_) from (BW.out.cell (World.block_lt_of_cell? _ _ HW4.out.1)).trans HW4.out.1)
  have HX5 := Aside0.mk (show w4_.drew.cell? ⟨gw_, 5, none⟩ = some (.slice B5_ v5.length d5_) from (BW.out.cell (World.block_lt_of_cell? _ _ HW5.out.1)).trans HW5.out.1)
  have HV1 := Aside0.mk (show (Kd.int .u8).C w4_.drew B1_ v1.length v1 from Kd.C_below HW1.out.2.2 BW.out)
  have HV2 := Aside0.mk (show (Kd.int .u8).C w4_.drew B2_ v2.length v2 from Kd.C_below HW2.out.2.2 BW.out)
  have HV3 := Aside0.mk (show (Kd.int .u8).C w4_.drew B3_ v3.length v3 from Kd.C_below HW3.out.2.2 BW.out)
  have HV5 := Aside0.mk (show (Kd.int .u8).C w4_.drew B5_ v5.length v5 from Kd.C_below HW5.out.2.2 BW.out)
  refine start_ (n := 25) (S := fun w' => Below w4_.drew.heap.size w4_.drew w') (ds := [24]) #[false, false, false, false, false, false, false, false, false, false, false, false, false, false, false, false, false, false, false, false, false, false, false, false, false] (by kernel_rfl) rfl rfl (Below.refl _ _) (fun hHeld => ?_)
  generalize w4_.drew = w5_ at BK2 PA RO BW BK3 HX0 HX1 HX2 HX3 HX4 HX5 HV1 HV2 HV3 HV5 HB ZZ hHeld ⊢
  refine pure_ (i := 0) (N := some 47) (v := ?_) (a' := ?_) #[true, false, false, false, false, false, false, false, false, false, false, false, false, false, false, false, false, false, false, false, false, false, false, false, false] rfl rfl (by kernel_rfl) (fun _ _ _ h => h) (Or.inl ⟨by rfl, ?_⟩) ?_ ?_
  rotate_left
  · intro w'
    go_simp
    with_reducible rfl
  rotate_left
  · simp only [Act.put, List.setIfInBounds_toArray, List.set_cons_zero, List.set_cons_succ, i64_w, i32_w]
    rfl
  refine pure_ (i := 1) (N := some 48) (v := ?_) (a' := ?_) #[true, true, false, false, false, false, false, false, false, false, false, false, false, false, false, false, false, false, false, false, false, false, false, false, false] rfl rfl (by kernel_rfl) (fun _ _ _ h => h) (Or.inl ⟨by rfl, ?_⟩) ?_ ?_
  rotate_left
  · intro w'
    go_simp
    with_reducible rfl
  rotate_left
  · simp only [Act.put, List.setIfInBounds_toArray, List.set_cons_zero, List.set_cons_succ, i64_w, i32_w]
    rfl
  refine take_ (i := 2) (N := some 49) (v := ?_) (a' := ?_) #[true, true, true, false, false, false, false, false, false, false, false, false, false, false, false, false, false, false, false, false, false, false, false, false, false] rfl rfl (by kernel_rfl) (fun _ _ _ h => h) (Or.inl ⟨by rfl, ?_⟩) hHeld ?_ ?_
  rotate_left
  · rintro w' h_
    have q_ := (h_.cell (World.block_lt_of_cell? _ _ HX0.out)).trans HX0.out
    go_simp
    with_reducible rfl
  rotate_left
  · simp only [Act.put, List.setIfInBounds_toArray, List.set_cons_zero, List.set_cons_succ, i64_w, i32_w]
    rfl
  refine pure_ (i := 3) (N := some 50) (v := ?_) (a' := ?_) #[true, true, true, true, false, false, false, false, false, false, false, false, false, false, false, false, false, false, false, false, false, false, false, false, false] rfl rfl (by kernel_rfl) (fun _ _ _ h => h) (Or.inl ⟨by rfl, ?_⟩) ?_ ?_
  rotate_left
  · intro w'
    go_simp
    with_reducible rfl
  rotate_left
  · simp only [Act.put, List.setIfInBounds_toArray, List.set_cons_zero, List.set_cons_succ, i64_w, i32_w]
    rfl
  refine pure_ (i := 4) (N := some 51) (v := ?_) (a' := ?_) #[true, true, true, true, true, false, false, false, false, false, false, false, false, false, false, false, false, false, false, false, false, false, false, false, false] rfl rfl (by kernel_rfl) (fun _ _ _ h => h) (Or.inl ⟨by rfl, ?_⟩) ?_ ?_
  rotate_left
  · intro w'
    go_simp
    with_reducible rfl
  rotate_left
  · simp only [Act.put, List.setIfInBounds_toArray, List.set_cons_zero, List.set_cons_succ, i64_w, i32_w]
    rfl
  refine take_ (i := 5) (N := some 52) (v := ?_) (a' := ?_) #[true, true, true, true, true, true, false, false, false, false, false, false, false, false, false, false, false, false, false, false, false, false, false, false, false] rfl rfl (by kernel_rfl) (fun _ _ _ h => h) (Or.inl ⟨by rfl, ?_⟩) hHeld ?_ ?_
  rotate_left
  · rintro w' h_
    have q_ := (h_.cell (World.block_lt_of_cell? _ _ HX1.out)).trans HX1.out
    go_simp
    with_reducible rfl
  rotate_left
  · simp only [Act.put, List.setIfInBounds_toArray, List.set_cons_zero, List.set_cons_succ, i64_w, i32_w]
    rfl
  refine pure_ (i := 7) (N := some 54) (v := ?_) (a' := ?_) #[true, true, true, true, true, true, false, true, false, false, false, false, false, false, false, false, false, false, false, false, false, false, false, false, false] rfl rfl (by kernel_rfl) (fun _ _ _ h => h) (Or.inl ⟨by rfl, ?_⟩) ?_ ?_
  rotate_left
  · intro w'
    go_simp
    with_reducible rfl
  rotate_left
  · simp only [Act.put, List.setIfInBounds_toArray, List.set_cons_zero, List.set_cons_succ, i64_w, i32_w]
    rfl
  refine pure_ (i := 8) (N := some 55) (v := ?_) (a' := ?_) #[true, true, true, true, true, true, false, true, true, false, false, false, false, false, false, false, false, false, false, false, false, false, false, false, false] rfl rfl (by kernel_rfl) (fun _ _ _ h => h) (Or.inl ⟨by rfl, ?_⟩) ?_ ?_
  rotate_left
  · intro w'
    go_simp
    with_reducible rfl
  rotate_left
  · simp only [Act.put, List.setIfInBounds_toArray, List.set_cons_zero, List.set_cons_succ, i64_w, i32_w]
    rfl
  refine take_ (i := 9) (N := some 56) (v := ?_) (a' := ?_) #[true, true, true, true, true, true, false, true, true, true, false, false, false, false, false, false, false, false, false, false, false, false, false, false, false] rfl rfl (by kernel_rfl) (fun _ _ _ h => h) (Or.inl ⟨by rfl, ?_⟩) hHeld ?_ ?_
  rotate_left
  · rintro w' h_
    have q_ := (h_.cell (World.block_lt_of_cell? _ _ HX2.out)).trans HX2.out
    go_simp
    with_reducible rfl
  rotate_left
  · simp only [Act.put, List.setIfInBounds_toArray, List.set_cons_zero, List.set_cons_succ, i64_w, i32_w]
    rfl
  refine pure_ (i := 11) (N := some 58) (v := ?_) (a' := ?_) #[true, true, true, true, true, true, false, true, true, true, false, true, false, false, false, false, false, false, false, false, false, false, false, false, false] rfl rfl (by kernel_rfl) (fun _ _ _ h => h) (Or.inl ⟨by rfl, ?_⟩) ?_ ?_
  rotate_left
  · intro w'
    go_simp
    with_reducible rfl
  rotate_left
  · simp only [Act.put, List.setIfInBounds_toArray, List.set_cons_zero, List.set_cons_succ, i64_w, i32_w]
    rfl
  refine pure_ (i := 12) (N := some 59) (v := ?_) (a' := ?_) #[true, true, true, true, true, true, false, true, true, true, false, true, true, false, false, false, false, false, false, false, false, false, false, false, false] rfl rfl (by kernel_rfl) (fun _ _ _ h => h) (Or.inl ⟨by rfl, ?_⟩) ?_ ?_
  rotate_left
  · intro w'
    go_simp
    with_reducible rfl
  rotate_left
  · simp only [Act.put, List.setIfInBounds_toArray, List.set_cons_zero, List.set_cons_succ, i64_w, i32_w]
    rfl
  refine take_ (i := 13) (N := some 60) (v := ?_) (a' := ?_) #[true, true, true, true, true, true, false, true, true, true, false, true, true, true, false, false, false, false, false, false, false, false, false, false, false] rfl rfl (by kernel_rfl) (fun _ _ _ h => h) (Or.inl ⟨by rfl, ?_⟩) hHeld ?_ ?_
  rotate_left
  · rintro w' h_
    have q_ := (h_.cell (World.block_lt_of_cell? _ _ HX3.out)).trans HX3.out
    go_simp
    with_reducible rfl
  rotate_left
  · simp only [Act.put, List.setIfInBounds_toArray, List.set_cons_zero, List.set_cons_succ, i64_w, i32_w]
    rfl
  refine pure_ (i := 15) (N := some 62) (v := ?_) (a' := ?_) #[true, true, true, true, true, true, false, true, true, true, false, true, true, true, false, true, false, false, false, false, false, false, false, false, false] rfl rfl (by kernel_rfl) (fun _ _ _ h => h) (Or.inl ⟨by rfl, ?_⟩) ?_ ?_
  rotate_left
  · intro w'
    go_simp
    with_reducible rfl
  rotate_left
  · simp only [Act.put, List.setIfInBounds_toArray, List.set_cons_zero, List.set_cons_succ, i64_w, i32_w]
    rfl
  refine pure_ (i := 16) (N := some 63) (v := ?_) (a' := ?_) #[true, true, true, true, true, true, false, true, true, true, false, true, true, true, false, true, true, false, false, false, false, false, false, false, false] rfl rfl (by kernel_rfl) (fun _ _ _ h => h) (Or.inl ⟨by rfl, ?_⟩) ?_ ?_
  rotate_left
  · intro w'
    go_simp
    with_reducible rfl
  rotate_left
  · simp only [Act.put, List.setIfInBounds_toArray, List.set_cons_zero, List.set_cons_succ, i64_w, i32_w]
    rfl
  refine take_ (i := 17) (N := some 64) (v := ?_) (a' := ?_) #[true, true, true, true, true, true, false, true, true, true, false, true, true, true, false, true, true, true, false, false, false, false, false, false, false] rfl rfl (by kernel_rfl) (fun _ _ _ h => h) (Or.inl ⟨by rfl, ?_⟩) hHeld ?_ ?_
  rotate_left
  · rintro w' h_
    have q_ := (h_.cell (World.block_lt_of_cell? _ _ HX4.out)).trans HX4.out
    go_simp
    with_reducible rfl
  rotate_left
  · simp only [Act.put, List.setIfInBounds_toArray, List.set_cons_zero, List.set_cons_succ, i64_w, i32_w]
    rfl
  refine pure_ (i := 18) (N := some 65) (v := ?_) (a' := ?_) #[true, true, true, true, true, true, false, true, true, true, false, true, true, true, false, true, true, true, true, false, false, false, false, false, false] rfl rfl (by kernel_rfl) (fun _ _ _ h => h) (Or.inl ⟨by rfl, ?_⟩) ?_ ?_
  rotate_left
  · intro w'
    go_simp
    with_reducible rfl
  rotate_left
  · simp only [Act.put, List.setIfInBounds_toArray, List.set_cons_zero, List.set_cons_succ, i64_w, i32_w]
    rfl
  refine pure_ (i := 19) (N := some 66) (v := ?_) (a' := ?_) #[true, true, true, true, true, true, false, true, true, true, false, true, true, true, false, true, true, true, true, true, false, false, false, false, false] rfl rfl (by kernel_rfl) (fun _ _ _ h => h) (Or.inl ⟨by rfl, ?_⟩) ?_ ?_
  rotate_left
  · intro w'
    go_simp
    with_reducible rfl
  rotate_left
  · simp only [Act.put, List.setIfInBounds_toArray, List.set_cons_zero, List.set_cons_succ, i64_w, i32_w]
    rfl
  refine take_ (i := 20) (N := some 67) (v := ?_) (a' := ?_) #[true, true, true, true, true, true, false, true, true, true, false, true, true, true, false, true, true, true, true, true, true, false, false, false, false] rfl rfl (by kernel_rfl) (fun _ _ _ h => h) (Or.inl ⟨by rfl, ?_⟩) hHeld ?_ ?_
  rotate_left
  · rintro w' h_
    have q_ := (h_.cell (World.block_lt_of_cell? _ _ HX5.out)).trans HX5.out
    go_simp
    with_reducible rfl
  rotate_left
  · simp only [Act.put, List.setIfInBounds_toArray, List.set_cons_zero, List.set_cons_succ, i64_w, i32_w]
    rfl
  refine join_ (σ := Nat) 1 #[true, true, true, true, true, true, true, true, true, true, true, true, true, true, true, true, true, true, true, true, true, true, true, true, false] (fun g => [(53, .int .i64 n1), (57, .int .i64 n2), (61, .int .i64 n3), (68, .int .i64 n5), (69, .agg #[.slice B0_ v0.length d0_, .int .i64 n1, .int .i64 n2, .int .i64 n3, .slice B4_ v4.length d4_, .int .i64 n5]), (5, .pointer (some ⟨g, 0, none⟩))]) (fun g w' => w'.heap[g]? = some (.cells #[.slice none 0 0, .int .i64 0, .int .i64 0, .int .i64 0, .slice none 0 0, .int .i64 0] 33 (0, 0)) ∧ w5_.heap.size ≤ g ∧ Below w5_.heap.size w5_ w') ?_ ?_
  rotate_left
  · intro hCont
    refine two_ (i := 6) (j := 23) (Ni := some 53) (Nj := some 5) #[true, true, true, true, true, true, true, true, true, true, false, true, true, true, false, true, true, true, true, true, true, false, false, false, false] #[true, true, true, true, true, true, false, true, true, true, false, true, true, true, false, true, true, true, true, true, true, false, false, true, false] rfl rfl rfl rfl (by kernel_rfl) (by decide) (by decide) (fun K hK => ?_) (fun K hK => ?_)
    · skip
      refine goes_ Try.func119 (by kernel_rfl) rfl #[.slice B1_ v1.length d1_] (by rfl) rfl rfl (by (try simp only [List.map_toArray, List.map_cons, List.map_nil]); first | done | rfl) ?_
      refine (spec_l1Number.calls _ B1_ d1_ v1 n1 _ ?s1 ?s2 H_n1.out).mono ?_
      case s1 => exact Kd.C_below HV1.out hHeld
      case s2 => exact HW1.out.2.1
      rintro e wq_ ⟨rfl, hd⟩
      refine ⟨_, rfl, ?_⟩
      have hb := hd.below
      refine hK.out _ _ (below_step hHeld hb) (fun hHeld2 => ?_)
      clear hK K
      clear hHeld
      have hHeld := hHeld2
      clear hHeld2
      refine norm_ (a' := ?_) ?_ ?_
      rotate_left
      · show Act.put _ (some 53) _ = _
        simp only [Act.put, List.setIfInBounds_toArray, List.set_cons_zero, List.set_cons_succ, i64_w, i32_w]
        rfl
      refine two_ (i := 10) (j := 23) (Ni := some 57) (Nj := some 5) #[true, true, true, true, true, true, true, true, true, true, true, true, true, true, false, true, true, true, true, true, true, false, false, false, false] #[true, true, true, true, true, true, true, true, true, true, false, true, true, true, false, true, true, true, true, true, true, false, false, true, false] rfl rfl rfl rfl (by kernel_rfl) (by decide) (by decide) (fun K hK => ?_) (fun K hK => ?_)
      · skip
        refine goes_ Try.func119 (by kernel_rfl) rfl #[.slice B2_ v2.length d2_] (by rfl) rfl rfl (by (try simp only [List.map_toArray, List.map_cons, List.map_nil]); first | done | rfl) ?_
        refine (spec_l1Number.calls _ B2_ d2_ v2 n2 _ ?s1 ?s2 H_n2.out).mono ?_
        case s1 => exact Kd.C_below HV2.out hHeld
        case s2 => exact HW2.out.2.1
        rintro e wq_ ⟨rfl, hd⟩
        refine ⟨_, rfl, ?_⟩
        have hb := hd.below
        refine hK.out _ _ (below_step hHeld hb) (fun hHeld2 => ?_)
        clear hK K
        clear hHeld
        have hHeld := hHeld2
        clear hHeld2
        refine norm_ (a' := ?_) ?_ ?_
        rotate_left
        · show Act.put _ (some 57) _ = _
          simp only [Act.put, List.setIfInBounds_toArray, List.set_cons_zero, List.set_cons_succ, i64_w, i32_w]
          rfl
        refine two_ (i := 14) (j := 23) (Ni := some 61) (Nj := some 5) #[true, true, true, true, true, true, true, true, true, true, true, true, true, true, true, true, true, true, true, true, true, false, false, false, false] #[true, true, true, true, true, true, true, true, true, true, true, true, true, true, false, true, true, true, true, true, true, false, false, true, false] rfl rfl rfl rfl (by kernel_rfl) (by decide) (by decide) (fun K hK => ?_) (fun K hK => ?_)
        · skip
          refine goes_ Try.func119 (by kernel_rfl) rfl #[.slice B3_ v3.length d3_] (by rfl) rfl rfl (by (try simp only [List.map_toArray, List.map_cons, List.map_nil]); first | done | rfl) ?_
          refine (spec_l1Number.calls _ B3_ d3_ v3 n3 _ ?s1 ?s2 H_n3.out).mono ?_
          case s1 => exact Kd.C_below HV3.out hHeld
          case s2 => exact HW3.out.2.1
          rintro e wq_ ⟨rfl, hd⟩
          refine ⟨_, rfl, ?_⟩
          have hb := hd.below
          refine hK.out _ _ (below_step hHeld hb) (fun hHeld2 => ?_)
          clear hK K
          clear hHeld
          have hHeld := hHeld2
          clear hHeld2
          refine norm_ (a' := ?_) ?_ ?_
          rotate_left
          · show Act.put _ (some 61) _ = _
            simp only [Act.put, List.setIfInBounds_toArray, List.set_cons_zero, List.set_cons_succ, i64_w, i32_w]
            rfl
          refine two_ (i := 21) (j := 23) (Ni := some 68) (Nj := some 5) #[true, true, true, true, true, true, true, true, true, true, true, true, true, true, true, true, true, true, true, true, true, true, false, false, false] #[true, true, true, true, true, true, true, true, true, true, true, true, true, true, true, true, true, true, true, true, true, false, false, true, false] rfl rfl rfl rfl (by kernel_rfl) (by decide) (by decide) (fun K hK => ?_) (fun K hK => ?_)
          · skip
            refine goes_ Try.func119 (by kernel_rfl) rfl #[.slice B5_ v5.length d5_] (by rfl) rfl rfl (by (try simp only [List.map_toArray, List.map_cons, List.map_nil]); first | done | rfl) ?_
            refine (spec_l1Number.calls _ B5_ d5_ v5 n5 _ ?s1 ?s2 H_n5.out).mono ?_
            case s1 => exact Kd.C_below HV5.out hHeld
            case s2 => exact HW5.out.2.1
            rintro e wq_ ⟨rfl, hd⟩
            refine ⟨_, rfl, ?_⟩
            have hb := hd.below
            refine hK.out _ _ (below_step hHeld hb) (fun hHeld2 => ?_)
            clear hK K
            clear hHeld
            have hHeld := hHeld2
            clear hHeld2
            refine norm_ (a' := ?_) ?_ ?_
            rotate_left
            · show Act.put _ (some 68) _ = _
              simp only [Act.put, List.setIfInBounds_toArray, List.set_cons_zero, List.set_cons_succ, i64_w, i32_w]
              rfl
            refine pure_ (i := 22) (N := some 69) (v := ?_) (a' := ?_) #[true, true, true, true, true, true, true, true, true, true, true, true, true, true, true, true, true, true, true, true, true, true, true, false, false] rfl rfl (by kernel_rfl) (fun _ _ _ h => h) (Or.inl ⟨by rfl, ?_⟩) ?_ ?_
            rotate_left
            · intro w'
              go_simp
              with_reducible rfl
            rotate_left
            · simp only [Act.put, List.setIfInBounds_toArray, List.set_cons_zero, List.set_cons_succ, i64_w, i32_w]
              rfl
            refine one_ (i := 23) (N := some 5) #[true, true, true, true, true, true, true, true, true, true, true, true, true, true, true, true, true, true, true, true, true, true, true, true, false] rfl rfl (by kernel_rfl) (by decide) (fun K hK => ?_)
            refine box_stepK (cs := #[.slice none 0 0, .int .i64 0, .int .i64 0, .int .i64 0, .slice none 0 0, .int .i64 0]) (t := 33) (by rfl) rfl ?hr ?_
            case hr => first | (go_simp; done) | (go_simp; rfl)
            intro gz_ hg_ wa_ hz_ hb
            have HG := Aside0.mk hz_
            have HGL := Aside0.mk (show w5_.heap.size ≤ gz_ by rw [hg_]; exact hHeld.size)
            refine hK.out _ _ (below_step hHeld hb) (fun hHeld2 => ?_)
            clear hK K hz_ hb hg_ hHeld
            have hHeld := hHeld2
            clear hHeld2
            refine norm_ (a' := ?_) ?_ ?_
            rotate_left
            · show Act.put _ (some 5) _ = _
              simp only [Act.put, List.setIfInBounds_toArray, List.set_cons_zero, List.set_cons_succ, i64_w, i32_w]
              rfl
            exact norm_ (by first | (simp only [putAll, Act.put, List.setIfInBounds_toArray, List.set_cons_zero, List.set_cons_succ]; done) | (simp only [putAll, Act.put, List.setIfInBounds_toArray, List.set_cons_zero, List.set_cons_succ]; rfl)) (hCont gz_ _ ⟨HG.out, HGL.out, hHeld⟩)
          · skip
            refine box_stepK (cs := #[.slice none 0 0, .int .i64 0, .int .i64 0, .int .i64 0, .slice none 0 0, .int .i64 0]) (t := 33) (by rfl) rfl ?hr ?_
            case hr => first | (go_simp; done) | (go_simp; rfl)
            intro gz_ hg_ wa_ hz_ hb
            have HG := Aside0.mk hz_
            have HGL := Aside0.mk (show w5_.heap.size ≤ gz_ by rw [hg_]; exact hHeld.size)
            refine hK.out _ _ (below_step hHeld hb) (fun hHeld2 => ?_)
            clear hK K hz_ hb hg_ hHeld
            have hHeld := hHeld2
            clear hHeld2
            refine norm_ (a' := ?_) ?_ ?_
            rotate_left
            · show Act.put _ (some 5) _ = _
              simp only [Act.put, List.setIfInBounds_toArray, List.set_cons_zero, List.set_cons_succ, i64_w, i32_w]
              rfl
            refine one_ (i := 21) (N := some 68) #[true, true, true, true, true, true, true, true, true, true, true, true, true, true, true, true, true, true, true, true, true, true, false, true, false] rfl rfl (by kernel_rfl) (by decide) (fun K hK => ?_)
            refine goes_ Try.func119 (by kernel_rfl) rfl #[.slice B5_ v5.length d5_] (by rfl) rfl rfl (by (try simp only [List.map_toArray, List.map_cons, List.map_nil]); first | done | rfl) ?_
            refine (spec_l1Number.calls _ B5_ d5_ v5 n5 _ ?s1 ?s2 H_n5.out).mono ?_
            case s1 => exact Kd.C_below HV5.out hHeld
            case s2 => exact HW5.out.2.1
            rintro e wq_ ⟨rfl, hd⟩
            refine ⟨_, rfl, ?_⟩
            have hb := hd.below
            refine hK.out _ _ (below_step hHeld hb) (fun hHeld2 => ?_)
            clear hK K
            replace HG := Aside0.mk (blk_below HG.out hb)
            clear hHeld
            have hHeld := hHeld2
            clear hHeld2
            refine norm_ (a' := ?_) ?_ ?_
            rotate_left
            · show Act.put _ (some 68) _ = _
              simp only [Act.put, List.setIfInBounds_toArray, List.set_cons_zero, List.set_cons_succ, i64_w, i32_w]
              rfl
            refine pure_ (i := 22) (N := some 69) (v := ?_) (a' := ?_) #[true, true, true, true, true, true, true, true, true, true, true, true, true, true, true, true, true, true, true, true, true, true, true, true, false] rfl rfl (by kernel_rfl) (fun _ _ _ h => h) (Or.inl ⟨by rfl, ?_⟩) ?_ ?_
            rotate_left
            · intro w'
              go_simp
              with_reducible rfl
            rotate_left
            · simp only [Act.put, List.setIfInBounds_toArray, List.set_cons_zero, List.set_cons_succ, i64_w, i32_w]
              rfl
            exact norm_ (by first | (simp only [putAll, Act.put, List.setIfInBounds_toArray, List.set_cons_zero, List.set_cons_succ]; done) | (simp only [putAll, Act.put, List.setIfInBounds_toArray, List.set_cons_zero, List.set_cons_succ]; rfl)) (hCont gz_ _ ⟨HG.out, HGL.out, hHeld⟩)
        · skip
          refine box_stepK (cs := #[.slice none 0 0, .int .i64 0, .int .i64 0, .int .i64 0, .slice none 0 0, .int .i64 0]) (t := 33) (by rfl) rfl ?hr ?_
          case hr => first | (go_simp; done) | (go_simp; rfl)
          intro gz_ hg_ wa_ hz_ hb
          have HG := Aside0.mk hz_
          have HGL := Aside0.mk (show w5_.heap.size ≤ gz_ by rw [hg_]; exact hHeld.size)
          refine hK.out _ _ (below_step hHeld hb) (fun hHeld2 => ?_)
          clear hK K hz_ hb hg_ hHeld
          have hHeld := hHeld2
          clear hHeld2
          refine norm_ (a' := ?_) ?_ ?_
          rotate_left
          · show Act.put _ (some 5) _ = _
            simp only [Act.put, List.setIfInBounds_toArray, List.set_cons_zero, List.set_cons_succ, i64_w, i32_w]
            rfl
          refine one_ (i := 14) (N := some 61) #[true, true, true, true, true, true, true, true, true, true, true, true, true, true, true, true, true, true, true, true, true, false, false, true, false] rfl rfl (by kernel_rfl) (by decide) (fun K hK => ?_)
          refine goes_ Try.func119 (by kernel_rfl) rfl #[.slice B3_ v3.length d3_] (by rfl) rfl rfl (by (try simp only [List.map_toArray, List.map_cons, List.map_nil]); first | done | rfl) ?_
          refine (spec_l1Number.calls _ B3_ d3_ v3 n3 _ ?s1 ?s2 H_n3.out).mono ?_
          case s1 => exact Kd.C_below HV3.out hHeld
          case s2 => exact HW3.out.2.1
          rintro e wq_ ⟨rfl, hd⟩
          refine ⟨_, rfl, ?_⟩
          have hb := hd.below
          refine hK.out _ _ (below_step hHeld hb) (fun hHeld2 => ?_)
          clear hK K
          replace HG := Aside0.mk (blk_below HG.out hb)
          clear hHeld
          have hHeld := hHeld2
          clear hHeld2
          refine norm_ (a' := ?_) ?_ ?_
          rotate_left
          · show Act.put _ (some 61) _ = _
            simp only [Act.put, List.setIfInBounds_toArray, List.set_cons_zero, List.set_cons_succ, i64_w, i32_w]
            rfl
          refine one_ (i := 21) (N := some 68) #[true, true, true, true, true, true, true, true, true, true, true, true, true, true, true, true, true, true, true, true, true, true, false, true, false] rfl rfl (by kernel_rfl) (by decide) (fun K hK => ?_)
          refine goes_ Try.func119 (by kernel_rfl) rfl #[.slice B5_ v5.length d5_] (by rfl) rfl rfl (by (try simp only [List.map_toArray, List.map_cons, List.map_nil]); first | done | rfl) ?_
          refine (spec_l1Number.calls _ B5_ d5_ v5 n5 _ ?s1 ?s2 H_n5.out).mono ?_
          case s1 => exact Kd.C_below HV5.out hHeld
          case s2 => exact HW5.out.2.1
          rintro e wq_ ⟨rfl, hd⟩
          refine ⟨_, rfl, ?_⟩
          have hb := hd.below
          refine hK.out _ _ (below_step hHeld hb) (fun hHeld2 => ?_)
          clear hK K
          replace HG := Aside0.mk (blk_below HG.out hb)
          clear hHeld
          have hHeld := hHeld2
          clear hHeld2
          refine norm_ (a' := ?_) ?_ ?_
          rotate_left
          · show Act.put _ (some 68) _ = _
            simp only [Act.put, List.setIfInBounds_toArray, List.set_cons_zero, List.set_cons_succ, i64_w, i32_w]
            rfl
          refine pure_ (i := 22) (N := some 69) (v := ?_) (a' := ?_) #[true, true, true, true, true, true, true, true, true, true, true, true, true, true, true, true, true, true, true, true, true, true, true, true, false] rfl rfl (by kernel_rfl) (fun _ _ _ h => h) (Or.inl ⟨by rfl, ?_⟩) ?_ ?_
          rotate_left
          · intro w'
            go_simp
            with_reducible rfl
          rotate_left
          · simp only [Act.put, List.setIfInBounds_toArray, List.set_cons_zero, List.set_cons_succ, i64_w, i32_w]
            rfl
          exact norm_ (by first | (simp only [putAll, Act.put, List.setIfInBounds_toArray, List.set_cons_zero, List.set_cons_succ]; done) | (simp only [putAll, Act.put, List.setIfInBounds_toArray, List.set_cons_zero, List.set_cons_succ]; rfl)) (hCont gz_ _ ⟨HG.out, HGL.out, hHeld⟩)
      · skip
        refine box_stepK (cs := #[.slice none 0 0, .int .i64 0, .int .i64 0, .int .i64 0, .slice none 0 0, .int .i64 0]) (t := 33) (by rfl) rfl ?hr ?_
        case hr => first | (go_simp; done) | (go_simp; rfl)
        intro gz_ hg_ wa_ hz_ hb
        have HG := Aside0.mk hz_
        have HGL := Aside0.mk (show w5_.heap.size ≤ gz_ by rw [hg_]; exact hHeld.size)
        refine hK.out _ _ (below_step hHeld hb) (fun hHeld2 => ?_)
        clear hK K hz_ hb hg_ hHeld
        have hHeld := hHeld2
        clear hHeld2
        refine norm_ (a' := ?_) ?_ ?_
        rotate_left
        · show Act.put _ (some 5) _ = _
          simp only [Act.put, List.setIfInBounds_toArray, List.set_cons_zero, List.set_cons_succ, i64_w, i32_w]
          rfl
        refine one_ (i := 10) (N := some 57) #[true, true, true, true, true, true, true, true, true, true, true, true, true, true, false, true, true, true, true, true, true, false, false, true, false] rfl rfl (by kernel_rfl) (by decide) (fun K hK => ?_)
        refine goes_ Try.func119 (by kernel_rfl) rfl #[.slice B2_ v2.length d2_] (by rfl) rfl rfl (by (try simp only [List.map_toArray, List.map_cons, List.map_nil]); first | done | rfl) ?_
        refine (spec_l1Number.calls _ B2_ d2_ v2 n2 _ ?s1 ?s2 H_n2.out).mono ?_
        case s1 => exact Kd.C_below HV2.out hHeld
        case s2 => exact HW2.out.2.1
        rintro e wq_ ⟨rfl, hd⟩
        refine ⟨_, rfl, ?_⟩
        have hb := hd.below
        refine hK.out _ _ (below_step hHeld hb) (fun hHeld2 => ?_)
        clear hK K
        replace HG := Aside0.mk (blk_below HG.out hb)
        clear hHeld
        have hHeld := hHeld2
        clear hHeld2
        refine norm_ (a' := ?_) ?_ ?_
        rotate_left
        · show Act.put _ (some 57) _ = _
          simp only [Act.put, List.setIfInBounds_toArray, List.set_cons_zero, List.set_cons_succ, i64_w, i32_w]
          rfl
        refine one_ (i := 14) (N := some 61) #[true, true, true, true, true, true, true, true, true, true, true, true, true, true, true, true, true, true, true, true, true, false, false, true, false] rfl rfl (by kernel_rfl) (by decide) (fun K hK => ?_)
        refine goes_ Try.func119 (by kernel_rfl) rfl #[.slice B3_ v3.length d3_] (by rfl) rfl rfl (by (try simp only [List.map_toArray, List.map_cons, List.map_nil]); first | done | rfl) ?_
        refine (spec_l1Number.calls _ B3_ d3_ v3 n3 _ ?s1 ?s2 H_n3.out).mono ?_
        case s1 => exact Kd.C_below HV3.out hHeld
        case s2 => exact HW3.out.2.1
        rintro e wq_ ⟨rfl, hd⟩
        refine ⟨_, rfl, ?_⟩
        have hb := hd.below
        refine hK.out _ _ (below_step hHeld hb) (fun hHeld2 => ?_)
        clear hK K
        replace HG := Aside0.mk (blk_below HG.out hb)
        clear hHeld
        have hHeld := hHeld2
        clear hHeld2
        refine norm_ (a' := ?_) ?_ ?_
        rotate_left
        · show Act.put _ (some 61) _ = _
          simp only [Act.put, List.setIfInBounds_toArray, List.set_cons_zero, List.set_cons_succ, i64_w, i32_w]
          rfl
        refine one_ (i := 21) (N := some 68) #[true, true, true, true, true, true, true, true, true, true, true, true, true, true, true, true, true, true, true, true, true, true, false, true, false] rfl rfl (by kernel_rfl) (by decide) (fun K hK => ?_)
        refine goes_ Try.func119 (by kernel_rfl) rfl #[.slice B5_ v5.length d5_] (by rfl) rfl rfl (by (try simp only [List.map_toArray, List.map_cons, List.map_nil]); first | done | rfl) ?_
        refine (spec_l1Number.calls _ B5_ d5_ v5 n5 _ ?s1 ?s2 H_n5.out).mono ?_
        case s1 => exact Kd.C_below HV5.out hHeld
        case s2 => exact HW5.out.2.1
        rintro e wq_ ⟨rfl, hd⟩
        refine ⟨_, rfl, ?_⟩
        have hb := hd.below
        refine hK.out _ _ (below_step hHeld hb) (fun hHeld2 => ?_)
        clear hK K
        replace HG := Aside0.mk (blk_below HG.out hb)
        clear hHeld
        have hHeld := hHeld2
        clear hHeld2
        refine norm_ (a' := ?_) ?_ ?_
        rotate_left
        · show Act.put _ (some 68) _ = _
          simp only [Act.put, List.setIfInBounds_toArray, List.set_cons_zero, List.set_cons_succ, i64_w, i32_w]
          rfl
        refine pure_ (i := 22) (N := some 69) (v := ?_) (a' := ?_) #[true, true, true, true, true, true, true, true, true, true, true, true, true, true, true, true, true, true, true, true, true, true, true, true, false] rfl rfl (by kernel_rfl) (fun _ _ _ h => h) (Or.inl ⟨by rfl, ?_⟩) ?_ ?_
        rotate_left
        · intro w'
          go_simp
          with_reducible rfl
        rotate_left
        · simp only [Act.put, List.setIfInBounds_toArray, List.set_cons_zero, List.set_cons_succ, i64_w, i32_w]
          rfl
        exact norm_ (by first | (simp only [putAll, Act.put, List.setIfInBounds_toArray, List.set_cons_zero, List.set_cons_succ]; done) | (simp only [putAll, Act.put, List.setIfInBounds_toArray, List.set_cons_zero, List.set_cons_succ]; rfl)) (hCont gz_ _ ⟨HG.out, HGL.out, hHeld⟩)
    · skip
      refine box_stepK (cs := #[.slice none 0 0, .int .i64 0, .int .i64 0, .int .i64 0, .slice none 0 0, .int .i64 0]) (t := 33) (by rfl) rfl ?hr ?_
      case hr => first | (go_simp; done) | (go_simp; rfl)
      intro gz_ hg_ wa_ hz_ hb
      have HG := Aside0.mk hz_
      have HGL := Aside0.mk (show w5_.heap.size ≤ gz_ by rw [hg_]; exact hHeld.size)
      refine hK.out _ _ (below_step hHeld hb) (fun hHeld2 => ?_)
      clear hK K hz_ hb hg_ hHeld
      have hHeld := hHeld2
      clear hHeld2
      refine norm_ (a' := ?_) ?_ ?_
      rotate_left
      · show Act.put _ (some 5) _ = _
        simp only [Act.put, List.setIfInBounds_toArray, List.set_cons_zero, List.set_cons_succ, i64_w, i32_w]
        rfl
      refine one_ (i := 6) (N := some 53) #[true, true, true, true, true, true, true, true, true, true, false, true, true, true, false, true, true, true, true, true, true, false, false, true, false] rfl rfl (by kernel_rfl) (by decide) (fun K hK => ?_)
      refine goes_ Try.func119 (by kernel_rfl) rfl #[.slice B1_ v1.length d1_] (by rfl) rfl rfl (by (try simp only [List.map_toArray, List.map_cons, List.map_nil]); first | done | rfl) ?_
      refine (spec_l1Number.calls _ B1_ d1_ v1 n1 _ ?s1 ?s2 H_n1.out).mono ?_
      case s1 => exact Kd.C_below HV1.out hHeld
      case s2 => exact HW1.out.2.1
      rintro e wq_ ⟨rfl, hd⟩
      refine ⟨_, rfl, ?_⟩
      have hb := hd.below
      refine hK.out _ _ (below_step hHeld hb) (fun hHeld2 => ?_)
      clear hK K
      replace HG := Aside0.mk (blk_below HG.out hb)
      clear hHeld
      have hHeld := hHeld2
      clear hHeld2
      refine norm_ (a' := ?_) ?_ ?_
      rotate_left
      · show Act.put _ (some 53) _ = _
        simp only [Act.put, List.setIfInBounds_toArray, List.set_cons_zero, List.set_cons_succ, i64_w, i32_w]
        rfl
      refine one_ (i := 10) (N := some 57) #[true, true, true, true, true, true, true, true, true, true, true, true, true, true, false, true, true, true, true, true, true, false, false, true, false] rfl rfl (by kernel_rfl) (by decide) (fun K hK => ?_)
      refine goes_ Try.func119 (by kernel_rfl) rfl #[.slice B2_ v2.length d2_] (by rfl) rfl rfl (by (try simp only [List.map_toArray, List.map_cons, List.map_nil]); first | done | rfl) ?_
      refine (spec_l1Number.calls _ B2_ d2_ v2 n2 _ ?s1 ?s2 H_n2.out).mono ?_
      case s1 => exact Kd.C_below HV2.out hHeld
      case s2 => exact HW2.out.2.1
      rintro e wq_ ⟨rfl, hd⟩
      refine ⟨_, rfl, ?_⟩
      have hb := hd.below
      refine hK.out _ _ (below_step hHeld hb) (fun hHeld2 => ?_)
      clear hK K
      replace HG := Aside0.mk (blk_below HG.out hb)
      clear hHeld
      have hHeld := hHeld2
      clear hHeld2
      refine norm_ (a' := ?_) ?_ ?_
      rotate_left
      · show Act.put _ (some 57) _ = _
        simp only [Act.put, List.setIfInBounds_toArray, List.set_cons_zero, List.set_cons_succ, i64_w, i32_w]
        rfl
      refine one_ (i := 14) (N := some 61) #[true, true, true, true, true, true, true, true, true, true, true, true, true, true, true, true, true, true, true, true, true, false, false, true, false] rfl rfl (by kernel_rfl) (by decide) (fun K hK => ?_)
      refine goes_ Try.func119 (by kernel_rfl) rfl #[.slice B3_ v3.length d3_] (by rfl) rfl rfl (by (try simp only [List.map_toArray, List.map_cons, List.map_nil]); first | done | rfl) ?_
      refine (spec_l1Number.calls _ B3_ d3_ v3 n3 _ ?s1 ?s2 H_n3.out).mono ?_
      case s1 => exact Kd.C_below HV3.out hHeld
      case s2 => exact HW3.out.2.1
      rintro e wq_ ⟨rfl, hd⟩
      refine ⟨_, rfl, ?_⟩
      have hb := hd.below
      refine hK.out _ _ (below_step hHeld hb) (fun hHeld2 => ?_)
      clear hK K
      replace HG := Aside0.mk (blk_below HG.out hb)
      clear hHeld
      have hHeld := hHeld2
      clear hHeld2
      refine norm_ (a' := ?_) ?_ ?_
      rotate_left
      · show Act.put _ (some 61) _ = _
        simp only [Act.put, List.setIfInBounds_toArray, List.set_cons_zero, List.set_cons_succ, i64_w, i32_w]
        rfl
      refine one_ (i := 21) (N := some 68) #[true, true, true, true, true, true, true, true, true, true, true, true, true, true, true, true, true, true, true, true, true, true, false, true, false] rfl rfl (by kernel_rfl) (by decide) (fun K hK => ?_)
      refine goes_ Try.func119 (by kernel_rfl) rfl #[.slice B5_ v5.length d5_] (by rfl) rfl rfl (by (try simp only [List.map_toArray, List.map_cons, List.map_nil]); first | done | rfl) ?_
      refine (spec_l1Number.calls _ B5_ d5_ v5 n5 _ ?s1 ?s2 H_n5.out).mono ?_
      case s1 => exact Kd.C_below HV5.out hHeld
      case s2 => exact HW5.out.2.1
      rintro e wq_ ⟨rfl, hd⟩
      refine ⟨_, rfl, ?_⟩
      have hb := hd.below
      refine hK.out _ _ (below_step hHeld hb) (fun hHeld2 => ?_)
      clear hK K
      replace HG := Aside0.mk (blk_below HG.out hb)
      clear hHeld
      have hHeld := hHeld2
      clear hHeld2
      refine norm_ (a' := ?_) ?_ ?_
      rotate_left
      · show Act.put _ (some 68) _ = _
        simp only [Act.put, List.setIfInBounds_toArray, List.set_cons_zero, List.set_cons_succ, i64_w, i32_w]
        rfl
      refine pure_ (i := 22) (N := some 69) (v := ?_) (a' := ?_) #[true, true, true, true, true, true, true, true, true, true, true, true, true, true, true, true, true, true, true, true, true, true, true, true, false] rfl rfl (by kernel_rfl) (fun _ _ _ h => h) (Or.inl ⟨by rfl, ?_⟩) ?_ ?_
      rotate_left
      · intro w'
        go_simp
        with_reducible rfl
      rotate_left
      · simp only [Act.put, List.setIfInBounds_toArray, List.set_cons_zero, List.set_cons_succ, i64_w, i32_w]
        rfl
      exact norm_ (by first | (simp only [putAll, Act.put, List.setIfInBounds_toArray, List.set_cons_zero, List.set_cons_succ]; done) | (simp only [putAll, Act.put, List.setIfInBounds_toArray, List.set_cons_zero, List.set_cons_succ]; rfl)) (hCont gz_ _ ⟨HG.out, HGL.out, hHeld⟩)
  clear hHeld
  rintro g5_ w6_ ⟨bJ_, gJ_, hb⟩
  replace BK2 := Aside0.mk (blk_below BK2.out hb)
  replace PA := Aside0.mk (Kd.R_below PA.out hb)
  replace RO := Aside0.mk (Kd.R_below RO.out hb)
  replace BW := Aside0.mk (below_step BW.out hb)
  replace BK3 := Aside0.mk (blk_below BK3.out hb)
  replace HB := Aside0.mk (below_step HB.out hb)
  replace ZZ := Aside0.mk (And.intro ZZ.out (show w5_.heap.size ≤ w6_.heap.size from hb.size))
  have BK5 := Aside0.mk bJ_
  replace ZZ := Aside0.mk (And.intro ZZ.out (And.intro (show w5_.heap.size ≤ g5_ from gJ_) (show g5_ < w6_.heap.size from blk_lt bJ_)))
  clear bJ_ gJ_ hb
  refine norm_ (a' := ?_) ?_ ?_
  rotate_left
  · simp only [putAll, Act.put, List.setIfInBounds_toArray, List.set_cons_zero, List.set_cons_succ]
    rfl
  refine last_ (i := 24) (N := none) #[true, true, true, true, true, true, true, true, true, true, true, true, true, true, true, true, true, true, true, true, true, true, true, true, true] rfl rfl (by kernel_rfl) (by decide) (fun K hK => ?_)
  refine row_stepK (by rfl) 33 (.tmp 5) (.tmp 69) rfl g5_ #[.slice B0_ v0.length d0_, .int .i64 n1, .int .i64 n2, .int .i64 n3, .slice B4_ v4.length d4_, .int .i64 n5] rfl ?hy 33 _ BK5.out ?hi ?ho ?h1 rfl HB.out (show w.heap.size ≤ g5_ from (by have h_ := ZZ.out; omega)) ?_
  case hy => rfl
  case hi => kernel_rfl
  case ho => rfl
  case h1 => first | rfl | (simp [Value.oneCell']; done) | (go_simp; done)
  intro w7_ bo hk hb2
  clear BK5
  replace BK2 := Aside0.mk (blk_keptIn BK2.out hk (by have h_ := ZZ.out; omega))
  replace PA := Aside0.mk (B_kept PA.out hk (by have h_ := ZZ.out; omega))
  replace RO := Aside0.mk (B_kept RO.out hk (by have h_ := ZZ.out; omega))
  replace BW := Aside0.mk (below_keptIn BW.out hk (by have h_ := ZZ.out; omega) HB.out hb2)
  replace BK3 := Aside0.mk (blk_keptIn BK3.out hk (by have h_ := ZZ.out; omega))
  replace HB := Aside0.mk hb2
  replace ZZ := Aside0.mk (And.intro ZZ.out (show w6_.heap.size ≤ w7_.heap.size from hk.1))
  have BK5 := Aside0.mk bo
  clear bo hk hb2
  refine hK.out _ _ ?_
  clear hK K
  refine done_ (by kernel_rfl) ?_
  have hz_BK3_0 : w7_.cell? ⟨g3_, 0, none⟩ = some (.int .i64 q0) := (blk_cell BK3.out 0).trans rfl
  have hz_BK3_1 : w7_.cell? ⟨g3_, 1, none⟩ = some (.int .i64 q1) := (blk_cell BK3.out 1).trans rfl
  have hz_BK3_2 : w7_.cell? ⟨g3_, 2, none⟩ = some (.slice (some ⟨gw_, 0, none⟩) 6 cw_) := (blk_cell BK3.out 2).trans rfl
  have hz_BK5_0 : w7_.cell? ⟨g5_, 0, none⟩ = some (.slice B0_ v0.length d0_) := (blk_cell BK5.out 0).trans rfl
  have hz_BK5_1 : w7_.cell? ⟨g5_, 1, none⟩ = some (.int .i64 n1) := (blk_cell BK5.out 1).trans rfl
  have hz_BK5_2 : w7_.cell? ⟨g5_, 2, none⟩ = some (.int .i64 n2) := (blk_cell BK5.out 2).trans rfl
  have hz_BK5_3 : w7_.cell? ⟨g5_, 3, none⟩ = some (.int .i64 n3) := (blk_cell BK5.out 3).trans rfl
  have hz_BK5_4 : w7_.cell? ⟨g5_, 4, none⟩ = some (.slice B4_ v4.length d4_) := (blk_cell BK5.out 4).trans rfl
  have hz_BK5_5 : w7_.cell? ⟨g5_, 5, none⟩ = some (.int .i64 n5) := (blk_cell BK5.out 5).trans rfl
  go_wp2_with (first | (go_at_call 22; refine hold_here ?_))
  refine hold_go ?_
  refine (spec_HeadFault.calls _ B0_ d0_ v0 n1 n2 n3 B4_ d4_ v4 n5 ff _ ?s1 ?s2 ?s3 ?s4 H_p.out).mono ?_
  case s1 => exact (Kd.R_reads' PA.out).2.2
  case s2 => exact (Kd.R_reads' PA.out).2.1
  case s3 => exact (Kd.R_reads' RO.out).2.2
  case s4 => exact (Kd.R_reads' RO.out).2.1
  rintro e w8_ ⟨rfl, hb⟩
  replace BK2 := Aside0.mk (blk_below BK2.out hb)
  replace PA := Aside0.mk (Kd.R_below PA.out hb)
  replace RO := Aside0.mk (Kd.R_below RO.out hb)
  replace BW := Aside0.mk (below_step BW.out hb)
  replace BK3 := Aside0.mk (blk_below BK3.out hb)
  replace BK5 := Aside0.mk (blk_below BK5.out hb)
  replace HB := Aside0.mk (below_step HB.out hb)
  clear hz_BK3_0 hz_BK3_1 hz_BK3_2 hz_BK5_0 hz_BK5_1 hz_BK5_2 hz_BK5_3 hz_BK5_4 hz_BK5_5
  replace ZZ := Aside0.mk (And.intro ZZ.out (show w7_.heap.size ≤ w8_.heap.size from hb.size))
  clear hb
  have hz_BK3_0 : w8_.cell? ⟨g3_, 0, none⟩ = some (.int .i64 q0) := (blk_cell BK3.out 0).trans rfl
  have hz_BK3_1 : w8_.cell? ⟨g3_, 1, none⟩ = some (.int .i64 q1) := (blk_cell BK3.out 1).trans rfl
  have hz_BK3_2 : w8_.cell? ⟨g3_, 2, none⟩ = some (.slice (some ⟨gw_, 0, none⟩) 6 cw_) := (blk_cell BK3.out 2).trans rfl
  have hz_BK5_0 : w8_.cell? ⟨g5_, 0, none⟩ = some (.slice B0_ v0.length d0_) := (blk_cell BK5.out 0).trans rfl
  have hz_BK5_1 : w8_.cell? ⟨g5_, 1, none⟩ = some (.int .i64 n1) := (blk_cell BK5.out 1).trans rfl
  have hz_BK5_2 : w8_.cell? ⟨g5_, 2, none⟩ = some (.int .i64 n2) := (blk_cell BK5.out 2).trans rfl
  have hz_BK5_3 : w8_.cell? ⟨g5_, 3, none⟩ = some (.int .i64 n3) := (blk_cell BK5.out 3).trans rfl
  have hz_BK5_4 : w8_.cell? ⟨g5_, 4, none⟩ = some (.slice B4_ v4.length d4_) := (blk_cell BK5.out 4).trans rfl
  have hz_BK5_5 : w8_.cell? ⟨g5_, 5, none⟩ = some (.int .i64 n5) := (blk_cell BK5.out 5).trans rfl
  by_cases hcn_ : ff = 0
  · have cp0_ : (ff == 0) = true := beq_iff_eq.2 hcn_
    have cp1_ : (ff != 0) = false := bne_eq_false_iff_eq.2 hcn_
    clear BW
    go_wp2_with (first | ((with_reducible refine gate_store (t := 81) (p := 2) (v := .tmp 75) rfl ?_); refine hold_here ?_))
    refine hold_go ?_
    refine row_store rfl 81 (.tmp 2) (.tmp 75) rfl g2_ #[.int .i64 0, .slice B0_ v0.length d0_, .int .i64 n1, .int .i64 n2, .int .i64 n3, .slice B4_ v4.length d4_, .int .i64 n5] rfl ?hy 81 _ BK2.out ?hi ?ho ?h1 rfl HB.out (show w.heap.size ≤ g2_ from (by have h_ := ZZ.out; omega)) ?_
    case hy => rfl
    case hi => kernel_rfl
    case ho => rfl
    case h1 => first | rfl | (simp [Value.oneCell']; done) | (go_simp; done)
    intro w9_ bo hk hb2
    clear BK2
    replace PA := Aside0.mk (B_kept PA.out hk (by have h_ := ZZ.out; omega))
    replace RO := Aside0.mk (B_kept RO.out hk (by have h_ := ZZ.out; omega))
    replace BK3 := Aside0.mk (blk_keptIn BK3.out hk (by have h_ := ZZ.out; omega))
    replace BK5 := Aside0.mk (blk_keptIn BK5.out hk (by have h_ := ZZ.out; omega))
    replace HB := Aside0.mk hb2
    clear hz_BK3_0 hz_BK3_1 hz_BK3_2 hz_BK5_0 hz_BK5_1 hz_BK5_2 hz_BK5_3 hz_BK5_4 hz_BK5_5
    replace ZZ := Aside0.mk (And.intro ZZ.out (show w8_.heap.size ≤ w9_.heap.size from hk.1))
    have BK2 := Aside0.mk bo
    clear bo hk hb2
    have hz_BK3_0 : w9_.cell? ⟨g3_, 0, none⟩ = some (.int .i64 q0) := (blk_cell BK3.out 0).trans rfl
    have hz_BK3_1 : w9_.cell? ⟨g3_, 1, none⟩ = some (.int .i64 q1) := (blk_cell BK3.out 1).trans rfl
    have hz_BK3_2 : w9_.cell? ⟨g3_, 2, none⟩ = some (.slice (some ⟨gw_, 0, none⟩) 6 cw_) := (blk_cell BK3.out 2).trans rfl
    have hz_BK5_0 : w9_.cell? ⟨g5_, 0, none⟩ = some (.slice B0_ v0.length d0_) := (blk_cell BK5.out 0).trans rfl
    have hz_BK5_1 : w9_.cell? ⟨g5_, 1, none⟩ = some (.int .i64 n1) := (blk_cell BK5.out 1).trans rfl
    have hz_BK5_2 : w9_.cell? ⟨g5_, 2, none⟩ = some (.int .i64 n2) := (blk_cell BK5.out 2).trans rfl
    have hz_BK5_3 : w9_.cell? ⟨g5_, 3, none⟩ = some (.int .i64 n3) := (blk_cell BK5.out 3).trans rfl
    have hz_BK5_4 : w9_.cell? ⟨g5_, 4, none⟩ = some (.slice B4_ v4.length d4_) := (blk_cell BK5.out 4).trans rfl
    have hz_BK5_5 : w9_.cell? ⟨g5_, 5, none⟩ = some (.int .i64 n5) := (blk_cell BK5.out 5).trans rfl
    go_wp2
    refine bodyPost_ret (results_cell_row rfl _ _ g2_ 81 #[.int .i64 0, .slice B0_ v0.length d0_, .int .i64 n1, .int .i64 n2, .int .i64 n3, .slice B4_ v4.length d4_, .int .i64 n5] (0, 0) _ rfl BK2.out Try.underlying81 rfl (by kernel_rfl)) rfl ?_
    try simp only [if_pos (show ff = 0 from hcn_)]
    exact ⟨_, _, rfl, Kd.R_mono (Kd.R_tight rfl PA.out) (fun k hk e_ => HAP.out k hk.symm e_.symm), Kd.R_mono (Kd.R_tight rfl RO.out) (fun k hk e_ => HAP.out k e_.symm hk.symm), HB.out⟩
  · have cp0_ : (ff == 0) = false := beq_eq_false_iff_ne.2 hcn_
    have cp1_ : (ff != 0) = true := bne_iff_ne.2 hcn_
    clear BW
    go_wp2_with (first | ((with_reducible refine gate_store (t := 81) (p := 2) (v := .tmp 73) rfl ?_); refine hold_here ?_))
    refine hold_go ?_
    refine row_store rfl 81 (.tmp 2) (.tmp 73) rfl g2_ #[.int .i64 5, .slice none 0 0, .int .i64 0, .int .i64 0, .int .i64 0, .slice none 0 0, .int .i64 0] rfl ?hy 81 _ BK2.out ?hi ?ho ?h1 rfl HB.out (show w.heap.size ≤ g2_ from (by have h_ := ZZ.out; omega)) ?_
    case hy => rfl
    case hi => kernel_rfl
    case ho => rfl
    case h1 => first | rfl | (simp [Value.oneCell']; done) | (go_simp; done)
    intro w9_ bo hk hb2
    clear BK2
    replace PA := Aside0.mk (B_kept PA.out hk (by have h_ := ZZ.out; omega))
    replace RO := Aside0.mk (B_kept RO.out hk (by have h_ := ZZ.out; omega))
    replace BK3 := Aside0.mk (blk_keptIn BK3.out hk (by have h_ := ZZ.out; omega))
    replace BK5 := Aside0.mk (blk_keptIn BK5.out hk (by have h_ := ZZ.out; omega))
    replace HB := Aside0.mk hb2
    clear hz_BK3_0 hz_BK3_1 hz_BK3_2 hz_BK5_0 hz_BK5_1 hz_BK5_2 hz_BK5_3 hz_BK5_4 hz_BK5_5
    replace ZZ := Aside0.mk (And.intro ZZ.out (show w8_.heap.size ≤ w9_.heap.size from hk.1))
    have BK2 := Aside0.mk bo
    clear bo hk hb2
    have hz_BK3_0 : w9_.cell? ⟨g3_, 0, none⟩ = some (.int .i64 q0) := (blk_cell BK3.out 0).trans rfl
    have hz_BK3_1 : w9_.cell? ⟨g3_, 1, none⟩ = some (.int .i64 q1) := (blk_cell BK3.out 1).trans rfl
    have hz_BK3_2 : w9_.cell? ⟨g3_, 2, none⟩ = some (.slice (some ⟨gw_, 0, none⟩) 6 cw_) := (blk_cell BK3.out 2).trans rfl
    have hz_BK5_0 : w9_.cell? ⟨g5_, 0, none⟩ = some (.slice B0_ v0.length d0_) := (blk_cell BK5.out 0).trans rfl
    have hz_BK5_1 : w9_.cell? ⟨g5_, 1, none⟩ = some (.int .i64 n1) := (blk_cell BK5.out 1).trans rfl
    have hz_BK5_2 : w9_.cell? ⟨g5_, 2, none⟩ = some (.int .i64 n2) := (blk_cell BK5.out 2).trans rfl
    have hz_BK5_3 : w9_.cell? ⟨g5_, 3, none⟩ = some (.int .i64 n3) := (blk_cell BK5.out 3).trans rfl
    have hz_BK5_4 : w9_.cell? ⟨g5_, 4, none⟩ = some (.slice B4_ v4.length d4_) := (blk_cell BK5.out 4).trans rfl
    have hz_BK5_5 : w9_.cell? ⟨g5_, 5, none⟩ = some (.int .i64 n5) := (blk_cell BK5.out 5).trans rfl
    go_wp2
    refine bodyPost_ret (results_cell_row rfl _ _ g2_ 81 #[.int .i64 5, .slice none 0 0, .int .i64 0, .int .i64 0, .int .i64 0, .slice none 0 0, .int .i64 0] (0, 0) _ rfl BK2.out Try.underlying81 rfl (by kernel_rfl)) rfl ?_
    try simp only [if_neg (show ¬ (ff = 0) from hcn_)]
    exact ⟨_, _, rfl, Kd.R_nil _ _ _ _ _, Kd.R_nil _ _ _ _ _, HB.out⟩

end Go.Proofs.Ytmmhghddldhogaa.S

/- Heads out of bytes: what the program's UnpackHead and the reference's come to: the same. For all bytes. -/
set_option linter.unusedVariables false
namespace Go.Proofs.Ytmmhghddldhogaa.S
open Go Go.RowKit Go.Proofs.YtmmhghddldhogaaW.PrintWords Go.Proofs.YtmmhghddldhogaaW.PrintLast Go.Proofs.YtmmhghddldhogaaW.PrintMore Go.Proofs.Ytmmhghddldhogaa.Base

/-- Words as a head. -/
def headIs (v0 v1 v2 v3 v4 v5 : List Int) : Prop := (v1.length = 7 ∧ v2.length = 7 ∧ v3.length = 7 ∧ v5.length = 7) ∧ headFaultV v0 (numV v1) (numV v2) (numV v3) v4 (numV v5) = 0
instance (v0 v1 v2 v3 v4 v5 : List Int) : Decidable (headIs v0 v1 v2 v3 v4 v5) := by unfold headIs; infer_instance
def upHeadW : List (List Int) → Int × List Int × Int × Int × Int × List Int × Int
  | [v0, v1, v2, v3, v4, v5] => if headIs v0 v1 v2 v3 v4 v5 then (0, v0, numV v1, numV v2, numV v3, v4, numV v5) else (5, [], 0, 0, 0, [], 0)
  | _ => (5, [], 0, 0, 0, [], 0)
def upHeadV (x : List Int) : Int × List Int × Int × Int × Int × List Int × Int := upHeadW (unpackV x).2.2
theorem six_or {α : Type} (W : List α) : W.length ≠ 6 ∨ ∃ v0 v1 v2 v3 v4 v5, W = [v0, v1, v2, v3, v4, v5] := by
  match W with
  | [a, b, c, d, e, f] => exact .inr ⟨a, b, c, d, e, f, rfl⟩
  | [] => exact .inl (by simp)
  | [_] => exact .inl (by simp)
  | [_, _] => exact .inl (by simp)
  | [_, _, _] => exact .inl (by simp)
  | [_, _, _, _] => exact .inl (by simp)
  | [_, _, _, _, _] => exact .inl (by simp)
  | _ :: _ :: _ :: _ :: _ :: _ :: _ :: _ => exact .inl (by simp)
theorem upHeadW_ne {W : List (List Int)} (h : W.length ≠ 6) : upHeadW W = (5, [], 0, 0, 0, [], 0) := by
  unfold upHeadW
  split
  · exact absurd rfl h
  · rfl
/-- What a result holds: two rows of its own, apart. -/
def HeadPost (r : Int × List Int × Int × Int × Int × List Int × Int) (w : World) (e : Ending) (w' : World) : Prop :=
  ∃ v u : Value, e = .returned (.agg #[.int .i64 r.1, v, .int .i64 r.2.2.1, .int .i64 r.2.2.2.1, .int .i64 r.2.2.2.2.1, u, .int .i64 r.2.2.2.2.2.2]) ∧ Kd.R (Kd.int .u8) 5 w' w.heap.size (fun k_ => some k_ ≠ (u : Value).ownBlock) v r.2.1 ∧ Kd.R (Kd.int .u8) 5 w' w.heap.size (fun k_ => some k_ ≠ (v : Value).ownBlock) u r.2.2.2.2.2.1 ∧ Below w.heap.size w w'
theorem packL_byt6 : ∀ {ws : List (List Int)}, (∀ w ∈ ws, Byt w) → Byt (packL ws) := by
  intro ws
  induction ws with
  | nil => intro _; exact byt_nil
  | cons w ws ih =>
    intro h
    show Byt ((((w.length : Int) % 256) :: w) ++ packL ws)
    exact byt_append (byt_append (byt_one (x := (w.length : Int) % 256) (by omega) (by omega)) (h w List.mem_cons_self)) (ih (fun v hv => h v (List.mem_cons_of_mem _ hv)))
theorem packHead_back {x v0 v1 v2 v3 v4 v5 : List Int} {c at_ : Int} (hx : Byt x) (hu : unpackV x = (c, at_, [v0, v1, v2, v3, v4, v5])) :
    ((packHeadV v0 (numOfV v1).2 (numOfV v2).2 (numOfV v3).2 v4 (numOfV v5).2).1 = 0 ∧ (packHeadV v0 (numOfV v1).2 (numOfV v2).2 (numOfV v3).2 v4 (numOfV v5).2).2 = x) ↔ headIs v0 v1 v2 v3 v4 v5 := by
  obtain ⟨h1, h2, h3, h4, h5⟩ := unpackV_ok hx
  rw [hu] at h1 h2 h3 h4 h5
  simp only at h1 h3 h4
  have hc : c = 0 := by
    by_cases hc : c = 0
    · exact hc
    · exact absurd (h4 hc).1 (by simp)
  have hp := h3 hc
  constructor
  · intro ⟨g1, g2⟩
    have hf : headFaultV v0 (numOfV v1).2 (numOfV v2).2 (numOfV v3).2 v4 (numOfV v5).2 = 0 := by
      unfold packHeadV at g1
      by_cases hf : headFaultV v0 (numOfV v1).2 (numOfV v2).2 (numOfV v3).2 v4 (numOfV v5).2 = 0
      · exact hf
      · rw [if_neg hf] at g1
        exact absurd g1 hf
    unfold packHeadV at g2
    rw [if_pos hf] at g2
    obtain ⟨l0, l4, _⟩ := headFault_zero hf
    have hback := unpackV_pack (vs := [v0, num7 (numOfV v1).2, num7 (numOfV v2).2, num7 (numOfV v3).2, v4, num7 (numOfV v5).2]) (by
      intro w hw
      simp only [List.mem_cons, List.not_mem_nil, or_false] at hw
      rcases hw with rfl | rfl | rfl | rfl | rfl | rfl
      · omega
      · rw [num7_length]; omega
      · rw [num7_length]; omega
      · rw [num7_length]; omega
      · omega
      · rw [num7_length]; omega) (by simp) (by rw [packHead_length l0 l4]; omega)
    have g2' : packL [v0, num7 (numOfV v1).2, num7 (numOfV v2).2, num7 (numOfV v3).2, v4, num7 (numOfV v5).2] = x := g2
    rw [g2', hu] at hback
    simp only [Prod.mk.injEq, List.cons.injEq, true_and, and_true] at hback
    obtain ⟨_, _, e1, e2, e3, e5⟩ := hback
    have n1 : v1.length = 7 := by rw [e1]; exact num7_length _
    have n2 : v2.length = 7 := by rw [e2]; exact num7_length _
    have n3 : v3.length = 7 := by rw [e3]; exact num7_length _
    have n5 : v5.length = 7 := by rw [e5]; exact num7_length _
    refine ⟨⟨n1, n2, n3, n5⟩, ?_⟩
    unfold numOfV at hf
    rw [if_pos n1, if_pos n2, if_pos n3, if_pos n5] at hf
    exact hf
  · intro ⟨⟨n1, n2, n3, n5⟩, hf⟩
    have m1 := num7_numV (h1 v1 (by simp)).1 n1
    have m2 := num7_numV (h1 v2 (by simp)).1 n2
    have m3 := num7_numV (h1 v3 (by simp)).1 n3
    have m5 := num7_numV (h1 v5 (by simp)).1 n5
    unfold packHeadV numOfV
    rw [if_pos n1, if_pos n2, if_pos n3, if_pos n5]
    simp only
    rw [if_pos hf, m1, m2, m3, m5]
    exact ⟨rfl, hp⟩
theorem upHead_impl {x : List Int} (hx : Byt x) (A0 : Option Addr) (c0 : Nat) (w : World) (hr0 : Kd.C (Kd.int .u8) w A0 x.length x) (hc0 : x.length ≤ c0) :
    Calls Try.prog 69 #[.slice A0 x.length c0] w (HeadPost (upHeadV x) w) := by
  obtain ⟨h1, h2, h3, h4, h5⟩ := unpackV_ok hx
  obtain ⟨k, hk⟩ := (impl_UnpackWords_ev hx).rounds
  have hb := fun v0 v1 v2 v3 v4 v5 c a (h : unpackV x = (c, a, [v0, v1, v2, v3, v4, v5])) => packHead_back (v0 := v0) (v1 := v1) (v2 := v2) (v3 := v3) (v4 := v4) (v5 := v5) hx h
  unfold upHeadV
  generalize unpackV x = r at *
  obtain ⟨c, a, W⟩ := r
  simp only at h1 ⊢
  rcases six_or W with h | ⟨v0, v1, v2, v3, v4, v5, rfl⟩
  · rw [upHeadW_ne h]
    exact impl_UnpackHead_A k A0 c0 x c a W w hr0 hc0 hk h
  · obtain ⟨k1, e1⟩ := (impl_numOf_ev (h1 v1 (by simp)).1).rounds
    obtain ⟨k2, e2⟩ := (impl_numOf_ev (h1 v2 (by simp)).1).rounds
    obtain ⟨k3, e3⟩ := (impl_numOf_ev (h1 v3 (by simp)).1).rounds
    obtain ⟨k5, e5⟩ := (impl_numOf_ev (h1 v5 (by simp)).1).rounds
    obtain ⟨kp, ep⟩ := (impl_packHead_ev v0 (numOfV v1).2 (numOfV v2).2 (numOfV v3).2 v4 (numOfV v5).2).rounds
    have hbb : Byt (packHeadV v0 (numOfV v1).2 (numOfV v2).2 (numOfV v3).2 v4 (numOfV v5).2).2 := by
      unfold packHeadV
      by_cases hf : headFaultV v0 (numOfV v1).2 (numOfV v2).2 (numOfV v3).2 v4 (numOfV v5).2 = 0
      · rw [if_pos hf]
        refine packL_byt6 (fun w hw => ?_)
        simp only [List.mem_cons, List.not_mem_nil, or_false] at hw
        rcases hw with rfl | rfl | rfl | rfl | rfl | rfl
        · exact (h1 _ (by simp)).1
        · exact num7_byt _
        · exact num7_byt _
        · exact num7_byt _
        · exact (h1 _ (by simp)).1
        · exact num7_byt _
      · rw [if_neg hf]; exact byt_nil
    have hiff := hb v0 v1 v2 v3 v4 v5 c a rfl
    generalize packHeadV v0 (numOfV v1).2 (numOfV v2).2 (numOfV v3).2 v4 (numOfV v5).2 = pv at *
    have hw := impl_UnpackHead_D k A0 c0 x c a v0 v1 v2 v3 v4 v5 (numOfV v1).2 (numOfV v2).2 (numOfV v3).2 (numOfV v5).2 (numOfV v1).1 (numOfV v2).1 (numOfV v3).1 (numOfV v5).1 k1 k2 k3 k5 kp pv.1 pv.2 w hr0 hc0 hk e1 e2 e3 e5 ep (equal_eq hbb hx)
    by_cases hh : headIs v0 v1 v2 v3 v4 v5
    · have hn := hh.1
      have hcn := hiff.2 hh
      simp only [if_pos hcn] at hw
      have q : ∀ v : List Int, v.length = 7 → (numOfV v).2 = numV v := fun v hv => by unfold numOfV; rw [if_pos hv]
      rw [q v1 hn.1, q v2 hn.2.1, q v3 hn.2.2.1, q v5 hn.2.2.2] at hw
      show Calls _ _ _ _ (HeadPost (if headIs v0 v1 v2 v3 v4 v5 then _ else _) w)
      rw [if_pos hh]
      exact hw
    · have hcn := fun g => hh (hiff.1 g)
      simp only [if_neg hcn] at hw
      show Calls _ _ _ _ (HeadPost (if headIs v0 v1 v2 v3 v4 v5 then _ else _) w)
      rw [if_neg hh]
      exact hw
theorem upHead_spec {x : List Int} (hx : Byt x) (A0 : Option Addr) (c0 : Nat) (w : World) (hr0 : Kd.C (Kd.int .u8) w A0 x.length x) (hc0 : x.length ≤ c0) :
    Calls Try.prog 68 #[.slice A0 x.length c0] w (HeadPost (upHeadV x) w) := by
  obtain ⟨h1, h2, h3, h4, h5⟩ := unpackV_ok hx
  obtain ⟨k, hk⟩ := (spec_UnpackWords_ev hx).rounds
  unfold upHeadV
  generalize unpackV x = r at *
  obtain ⟨c, a, W⟩ := r
  simp only at h1 h4 ⊢
  by_cases hc : c = 0
  · rcases six_or W with h | ⟨v0, v1, v2, v3, v4, v5, rfl⟩
    · rw [upHeadW_ne h]
      exact spec_UnpackHead_A k A0 c0 x c a W w hr0 hc0 hk hc h
    · have bad : ¬ headIs v0 v1 v2 v3 v4 v5 → upHeadW [v0, v1, v2, v3, v4, v5] = (5, [], 0, 0, 0, [], 0) := fun h => if_neg h
      by_cases hall : v1.length = 7 ∧ v2.length = 7 ∧ v3.length = 7 ∧ v5.length = 7
      · obtain ⟨n1, n2, n3, n5⟩ := hall
        obtain ⟨k1, e1⟩ := (spec_number_ev (h1 v1 (by simp)).1 n1).rounds
        obtain ⟨k2, e2⟩ := (spec_number_ev (h1 v2 (by simp)).1 n2).rounds
        obtain ⟨k3, e3⟩ := (spec_number_ev (h1 v3 (by simp)).1 n3).rounds
        obtain ⟨k5, e5⟩ := (spec_number_ev (h1 v5 (by simp)).1 n5).rounds
        obtain ⟨kp, ep⟩ := (spec_headFault_ev v0 (numV v1) (numV v2) (numV v3) v4 (numV v5)).rounds
        have hw := spec_UnpackHead_D k A0 c0 x c a v0 v1 v2 v3 v4 v5 (numV v1) (numV v2) (numV v3) (numV v5) k1 k2 k3 k5 kp _ w hr0 hc0 hk hc n1 n2 n3 n5 e1 e2 e3 e5 ep
        by_cases hh : headIs v0 v1 v2 v3 v4 v5
        · simp only [if_pos hh.2] at hw
          show Calls _ _ _ _ (HeadPost (if headIs v0 v1 v2 v3 v4 v5 then _ else _) w)
          rw [if_pos hh]
          exact hw
        · have hcn : ¬ headFaultV v0 (numV v1) (numV v2) (numV v3) v4 (numV v5) = 0 := fun g => hh ⟨⟨n1, n2, n3, n5⟩, g⟩
          simp only [if_neg hcn] at hw
          rw [bad hh]
          exact hw
      · rw [bad (fun h => hall h.1)]
        exact spec_UnpackHead_B k A0 c0 x c a v0 v1 v2 v3 v4 v5 w hr0 hc0 hk hc hall
  · have he := (h4 hc).1
    subst he
    rw [upHeadW_ne (by simp)]
    exact spec_UnpackHead_N k A0 c0 x c a [] w hr0 hc0 hk hc
end Go.Proofs.Ytmmhghddldhogaa.S

/- The laws' look at a HeadResult that is marked. No condition beyond those in the statements. -/
set_option linter.unusedVariables false
namespace Go.Proofs.Ytmmhghddldhogaa.S
open Go Go.RowKit Go.Proofs.YtmmhghddldhogaaW.PrintWords Go.Proofs.YtmmhghddldhogaaW.PrintLast Go.Proofs.YtmmhghddldhogaaW.PrintMore Go.Proofs.Ytmmhghddldhogaa.Base

theorem heldHeadResult_len (k : Nat) (r0 r2 r3 r4 r6 : Int) (A1 : Option Addr) (c1 : Nat) (A5 : Option Addr) (c5 : Nat) (m1 : List Int) (n1 : Nat) (h1 : m1.length = n1) (m5 : List Int) (n5 : Nat) (h5 : m5.length = n5) (a r : Int) (w : World) (hr1 : Kd.C (Kd.int .u8) w A1 m1.length m1) (hc1 : n1 ≤ c1) (hr5 : Kd.C (Kd.int .u8) w A5 m5.length m5) (hc5 : n5 ≤ c5) (h : laws_heldHeadResult.f k r0 m1 r2 r3 r4 m5 r6 a = some r) :
    Calls Try.prog 72 #[.agg #[.int .i64 r0, .slice A1 n1 c1, .int .i64 r2, .int .i64 r3, .int .i64 r4, .slice A5 n5 c5, .int .i64 r6], .int .i64 a] w fun e w' => e = .returned (.int .i64 r) ∧ Below w.heap.size w w' := by
  subst h1 h5
  exact laws_heldHeadResult.calls k r0 A1 c1 m1 r2 r3 r4 A5 c5 m5 r6 a r w hr1 hc1 hr5 hc5 h
end Go.Proofs.Ytmmhghddldhogaa.S

/- The walk over the law FnExactUnpackHead: the program and the reference are called, compared, and what they hold is marked. No condition beyond those in the statements. -/
set_option linter.unusedVariables false
set_option linter.unusedSimpArgs false
namespace Go.Proofs.Ytmmhghddldhogaa.S
open Go Go.RowKit Go.Proofs.YtmmhghddldhogaaW.PrintWords Go.Proofs.YtmmhghddldhogaaW.PrintLast Go.Proofs.YtmmhghddldhogaaW.PrintMore Go.Proofs.Ytmmhghddldhogaa.Base
attribute [local go_sem] max2_int min2_int max_two min_two max_three min_three max_four min_four

set_option maxHeartbeats 80000000 in
set_option maxRecDepth 100000 in
theorem law_UnpackHead (A0 : Option Addr) (c0 : Nat) (l0 : List Int) (q0 : Int) (rb1 : List Int) (q2 : Int) (q3 : Int) (q4 : Int) (rb5 : List Int) (q6 : Int) (ml0 : List Int) (mr1 mr2 : List Int) (w : World) (hr0 : Kd.C (Kd.int .u8) w A0 l0.length l0) (hc0 : l0.length ≤ c0) (hlen0 : l0.length ≤ 1048576)
    (ke0 keqr khr km0 kmr kt0 : Nat) (h_t0 : laws_toByteS.f kt0 l0 = some l0) (h_e0 : laws_eqByteS.f ke0 l0 l0 = some true) (h_spec : ∀ (B0 : Option Addr) (d0 : Nat) (W : World), Kd.C (Kd.int .u8) W B0 l0.length l0 → l0.length ≤ d0 → Calls Try.prog 68 #[.slice B0 l0.length d0] W (fun e w' => ∃ r1_ r5_ : Value, e = .returned (.agg #[.int .i64 q0, r1_, .int .i64 q2, .int .i64 q3, .int .i64 q4, r5_, .int .i64 q6]) ∧ Kd.R (Kd.int .u8) 5 w' W.heap.size (fun k_ => some k_ ≠ (r5_ : Value).ownBlock) r1_ rb1 ∧ Kd.R (Kd.int .u8) 5 w' W.heap.size (fun k_ => some k_ ≠ (r1_ : Value).ownBlock) r5_ rb5 ∧ Below W.heap.size W w')) (h_impl : ∀ (B0 : Option Addr) (d0 : Nat) (W : World), Kd.C (Kd.int .u8) W B0 l0.length l0 → l0.length ≤ d0 → Calls Try.prog 69 #[.slice B0 l0.length d0] W (fun e w' => ∃ r1_ r5_ : Value, e = .returned (.agg #[.int .i64 q0, r1_, .int .i64 q2, .int .i64 q3, .int .i64 q4, r5_, .int .i64 q6]) ∧ Kd.R (Kd.int .u8) 5 w' W.heap.size (fun k_ => some k_ ≠ (r5_ : Value).ownBlock) r1_ rb1 ∧ Kd.R (Kd.int .u8) 5 w' W.heap.size (fun k_ => some k_ ≠ (r1_ : Value).ownBlock) r5_ rb5 ∧ Below W.heap.size W w')) (h_eqr : laws_eqHeadResult.f keqr q0 rb1 q2 q3 q4 rb5 q6 q0 rb1 q2 q3 q4 rb5 q6 = some true) (h_m0 : laws_markByteS.f km0 l0 (1) = some (1 + (l0.length : Int), ml0)) (h_mr : laws_markHeadResult.f kmr q0 rb1 q2 q3 q4 rb5 q6 1 = some (1 + (rb1.length : Int) + (rb5.length : Int), mr1, mr2)) (h_r1 : mr1.length = rb1.length) (h_r2 : mr2.length = rb5.length) (h_hr : laws_heldHeadResult.f khr q0 mr1 q2 q3 q4 mr2 q6 1 = some (1 + (rb1.length : Int) + (rb5.length : Int))) :
    Calls Try.prog 13 #[.slice A0 l0.length c0] w fun e w' => e = .returned (.bool true) ∧ Below w.heap.size w w' := by
  have HR0 := Aside0.mk hr0
  have HC0 := Aside0.mk hc0
  have H_t0 := Aside0.mk h_t0
  have H_e0 := Aside0.mk h_e0
  have H_spec := Aside0.mk h_spec
  have H_impl := Aside0.mk h_impl
  have H_eqr := Aside0.mk h_eqr
  have H_m0 := Aside0.mk h_m0
  have H_mr := Aside0.mk h_mr
  have H_r1 := Aside0.mk h_r1
  have H_r2 := Aside0.mk h_r2
  have H_hr := Aside0.mk h_hr
  have HB := Aside0.mk (Below.refl w.heap.size w)
  have ZZ := Aside0.mk (Nat.le_refl w.heap.size)
  have cg0_ : decide ((l0.length : Int) > 1048576) = false := decide_eq_false (by omega)
  have ch0_ : decide ((1048576 : Int) < (l0.length : Int)) = false := decide_eq_false (by omega)
  have cz_ : decide ((1 + (rb1.length : Int) + (rb5.length : Int)) < 0) = false := decide_eq_false (by omega)
  have cy_ : decide ((1 + (l0.length : Int)) < 0) = false := decide_eq_false (by omega)
  have hud_ := Try.underlying81
  have hue_ := Try.underlying33
  clear hr0 hc0 hlen0 h_t0 h_e0 h_spec h_impl h_eqr h_m0 h_mr h_r1 h_r2 h_hr
  go_enter Try.func13, Try.ntmps13
  go_wp2_with (first | (go_at_call 37; refine hold_here ?_))
  refine hold_go ?_
  refine (laws_toByteS.calls _ A0 c0 l0 l0 _ ?s1 ?s2 H_t0.out).mono ?_
  case s1 => exact Kd.C_below HR0.out HB.out
  case s2 => exact HC0.out
  rintro e w1_ ⟨v, rfl, ho, hb⟩
  replace HB := Aside0.mk (below_step HB.out hb)
  replace ZZ := Aside0.mk (And.intro ZZ.out (show w.heap.size ≤ w1_.heap.size from hb.size))
  obtain ⟨A_T0, c_T0, ev_, hA_T0⟩ := B_of_R (base := w.heap.size) ho (show w.heap.size ≤ w.heap.size from (by have h_ := ZZ.out; omega))
  subst ev_
  have T0 := Aside0.mk (show Kd.R (Kd.int .u8) 5 w1_ w.heap.size (In w.heap.size w1_.heap.size) (.slice A_T0 l0.length c_T0) l0 from hA_T0)
  clear hA_T0 ho
  clear hb
  go_wp2_with (first | (go_at_call 68; refine hold_here ?_))
  refine hold_go ?_
  refine (H_spec.out A_T0 c_T0 _ ?s1 ?s2).mono ?_
  case s1 => exact (Kd.R_reads' T0.out).2.2
  case s2 => exact (Kd.R_reads' T0.out).2.1
  rintro e w2_ ⟨va_, vb_, rfl, ho1, ho5, hb⟩
  replace T0 := Aside0.mk (Kd.R_below T0.out hb)
  replace HB := Aside0.mk (below_step HB.out hb)
  replace ZZ := Aside0.mk (And.intro ZZ.out (show w1_.heap.size ≤ w2_.heap.size from hb.size))
  obtain ⟨A_W1, c_W1, ev_, hA_W1⟩ := B_of_R (base := w.heap.size) ho1 (show w.heap.size ≤ w1_.heap.size from (by have h_ := ZZ.out; omega))
  subst ev_
  have W1 := Aside0.mk (show Kd.R (Kd.int .u8) 5 w2_ w.heap.size (In w1_.heap.size w2_.heap.size) (.slice A_W1 rb1.length c_W1) rb1 from hA_W1)
  clear hA_W1 ho1
  obtain ⟨A_W5, c_W5, ev_, hA_W5⟩ := B_of_R (base := w.heap.size) ho5 (show w.heap.size ≤ w1_.heap.size from (by have h_ := ZZ.out; omega))
  subst ev_
  have W5 := Aside0.mk (show Kd.R (Kd.int .u8) 5 w2_ w.heap.size (In w1_.heap.size w2_.heap.size) (.slice A_W5 rb5.length c_W5) rb5 from hA_W5)
  clear hA_W5 ho5
  clear hb
  go_wp2_with (first | ((with_reducible refine gate_dst (N := 3) rfl ?_); refine hold_here ?_))
  refine hold_go ?_
  refine box_event (N := 3) (cs := #[.int .i64 0, .slice none 0 0, .int .i64 0, .int .i64 0, .int .i64 0, .slice none 0 0, .int .i64 0]) (t := 81) ?hgb rfl ?hrb ?_
  case hgb => rfl
  case hrb => first | (go_simp; done) | (go_simp; rfl)
  intro g3_ hg w3_ hbox hb
  replace T0 := Aside0.mk (Kd.R_below T0.out hb)
  replace W1 := Aside0.mk (Kd.R_below W1.out hb)
  replace W5 := Aside0.mk (Kd.R_below W5.out hb)
  replace HB := Aside0.mk (below_step HB.out hb)
  replace ZZ := Aside0.mk (And.intro ZZ.out (show w2_.heap.size ≤ w3_.heap.size from hb.size))
  have BK3 := Aside0.mk hbox
  replace ZZ := Aside0.mk (And.intro ZZ.out (And.intro (show g3_ = w2_.heap.size from hg) (show g3_ < w3_.heap.size from blk_lt hbox)))
  clear hb hbox hg
  go_wp2_with (first | ((with_reducible refine gate_store (t := 81) (p := 3) (v := .tmp 15) rfl ?_); refine hold_here ?_))
  refine hold_go ?_
  refine row_store rfl 81 (.tmp 3) (.tmp 15) rfl g3_ #[.int .i64 q0, .slice A_W1 rb1.length c_W1, .int .i64 q2, .int .i64 q3, .int .i64 q4, .slice A_W5 rb5.length c_W5, .int .i64 q6] rfl ?hy 81 _ BK3.out ?hi ?ho ?h1 rfl HB.out (show w.heap.size ≤ g3_ from (by have h_ := ZZ.out; omega)) ?_
  case hy => rfl
  case hi => kernel_rfl
  case ho => rfl
  case h1 => first | rfl | (simp [Value.oneCell']; done) | (go_simp; done)
  intro w4_ bo hk hb2
  clear BK3
  replace T0 := Aside0.mk (B_kept T0.out hk (by have h_ := ZZ.out; omega))
  replace W1 := Aside0.mk (B_kept W1.out hk (by have h_ := ZZ.out; omega))
  replace W5 := Aside0.mk (B_kept W5.out hk (by have h_ := ZZ.out; omega))
  replace HB := Aside0.mk hb2
  replace ZZ := Aside0.mk (And.intro ZZ.out (show w3_.heap.size ≤ w4_.heap.size from hk.1))
  have BK3 := Aside0.mk bo
  clear bo hk hb2
  clear T0
  go_wp2_with (first | (go_at_call 37; refine hold_here ?_))
  refine hold_go ?_
  refine (laws_toByteS.calls _ A0 c0 l0 l0 _ ?s1 ?s2 H_t0.out).mono ?_
  case s1 => exact Kd.C_below HR0.out HB.out
  case s2 => exact HC0.out
  rintro e w5_ ⟨v, rfl, ho, hb⟩
  replace W1 := Aside0.mk (Kd.R_below W1.out hb)
  replace W5 := Aside0.mk (Kd.R_below W5.out hb)
  replace BK3 := Aside0.mk (blk_below BK3.out hb)
  replace HB := Aside0.mk (below_step HB.out hb)
  replace ZZ := Aside0.mk (And.intro ZZ.out (show w4_.heap.size ≤ w5_.heap.size from hb.size))
  obtain ⟨A_X0_, c_X0_, ev_, hA_X0_⟩ := B_of_R (base := w.heap.size) ho (show w.heap.size ≤ w4_.heap.size from (by have h_ := ZZ.out; omega))
  subst ev_
  have X0_ := Aside0.mk (show Kd.R (Kd.int .u8) 5 w5_ w.heap.size (In w4_.heap.size w5_.heap.size) (.slice A_X0_ l0.length c_X0_) l0 from hA_X0_)
  clear hA_X0_ ho
  clear hb
  have Y0 := X0_
  clear X0_
  obtain ⟨A_Y0, eA_⟩ : ∃ A, A = A_X0_ := ⟨_, rfl⟩
  subst eA_
  obtain ⟨c_Y0, eC_⟩ : ∃ c, c = c_X0_ := ⟨_, rfl⟩
  subst eC_
  go_wp2_with (first | (go_at_call 69; refine hold_here ?_))
  refine hold_go ?_
  refine (H_impl.out A_Y0 c_Y0 _ ?s1 ?s2).mono ?_
  case s1 => exact (Kd.R_reads' Y0.out).2.2
  case s2 => exact (Kd.R_reads' Y0.out).2.1
  rintro e w6_ ⟨va_, vb_, rfl, ho1, ho5, hb⟩
  replace W1 := Aside0.mk (Kd.R_below W1.out hb)
  replace W5 := Aside0.mk (Kd.R_below W5.out hb)
  replace BK3 := Aside0.mk (blk_below BK3.out hb)
  replace Y0 := Aside0.mk (Kd.R_below Y0.out hb)
  replace HB := Aside0.mk (below_step HB.out hb)
  replace ZZ := Aside0.mk (And.intro ZZ.out (show w5_.heap.size ≤ w6_.heap.size from hb.size))
  have hap_ := fun k (h1 : (va_ : Value).ownBlock = some k) (h2 : (vb_ : Value).ownBlock = some k) => ho1.1 k h1 h2.symm
  obtain ⟨A_G1, c_G1, ev_, hA_G1⟩ := B_of_R (base := w.heap.size) ho1 (show w.heap.size ≤ w5_.heap.size from (by have h_ := ZZ.out; omega))
  subst ev_
  have G1 := Aside0.mk (show Kd.R (Kd.int .u8) 5 w6_ w.heap.size (In w5_.heap.size w6_.heap.size) (.slice A_G1 rb1.length c_G1) rb1 from hA_G1)
  clear hA_G1 ho1
  obtain ⟨A_G5, c_G5, ev_, hA_G5⟩ := B_of_R (base := w.heap.size) ho5 (show w.heap.size ≤ w5_.heap.size from (by have h_ := ZZ.out; omega))
  subst ev_
  have G5 := Aside0.mk (show Kd.R (Kd.int .u8) 5 w6_ w.heap.size (In w5_.heap.size w6_.heap.size) (.slice A_G5 rb5.length c_G5) rb5 from hA_G5)
  clear hA_G5 ho5
  have HAPG := Aside0.mk hap_
  clear hap_
  clear hb
  go_wp2_with (first | ((with_reducible refine gate_dst (N := 5) rfl ?_); refine hold_here ?_))
  refine hold_go ?_
  refine box_event (N := 5) (cs := #[.int .i64 0, .slice none 0 0, .int .i64 0, .int .i64 0, .int .i64 0, .slice none 0 0, .int .i64 0]) (t := 81) ?hgb rfl ?hrb ?_
  case hgb => rfl
  case hrb => first | (go_simp; done) | (go_simp; rfl)
  intro g5_ hg w7_ hbox hb
  replace W1 := Aside0.mk (Kd.R_below W1.out hb)
  replace W5 := Aside0.mk (Kd.R_below W5.out hb)
  replace BK3 := Aside0.mk (blk_below BK3.out hb)
  replace Y0 := Aside0.mk (Kd.R_below Y0.out hb)
  replace G1 := Aside0.mk (Kd.R_below G1.out hb)
  replace G5 := Aside0.mk (Kd.R_below G5.out hb)
  replace HB := Aside0.mk (below_step HB.out hb)
  replace ZZ := Aside0.mk (And.intro ZZ.out (show w6_.heap.size ≤ w7_.heap.size from hb.size))
  have BK5 := Aside0.mk hbox
  replace ZZ := Aside0.mk (And.intro ZZ.out (And.intro (show g5_ = w6_.heap.size from hg) (show g5_ < w7_.heap.size from blk_lt hbox)))
  clear hb hbox hg
  go_wp2_with (first | ((with_reducible refine gate_store (t := 81) (p := 5) (v := .tmp 19) rfl ?_); refine hold_here ?_))
  refine hold_go ?_
  refine row_store rfl 81 (.tmp 5) (.tmp 19) rfl g5_ #[.int .i64 q0, .slice A_G1 rb1.length c_G1, .int .i64 q2, .int .i64 q3, .int .i64 q4, .slice A_G5 rb5.length c_G5, .int .i64 q6] rfl ?hy 81 _ BK5.out ?hi ?ho ?h1 rfl HB.out (show w.heap.size ≤ g5_ from (by have h_ := ZZ.out; omega)) ?_
  case hy => rfl
  case hi => kernel_rfl
  case ho => rfl
  case h1 => first | rfl | (simp [Value.oneCell']; done) | (go_simp; done)
  intro w8_ bo hk hb2
  clear BK5
  replace W1 := Aside0.mk (B_kept W1.out hk (by have h_ := ZZ.out; omega))
  replace W5 := Aside0.mk (B_kept W5.out hk (by have h_ := ZZ.out; omega))
  replace BK3 := Aside0.mk (blk_keptIn BK3.out hk (by have h_ := ZZ.out; omega))
  replace Y0 := Aside0.mk (B_kept Y0.out hk (by have h_ := ZZ.out; omega))
  replace G1 := Aside0.mk (B_kept G1.out hk (by have h_ := ZZ.out; omega))
  replace G5 := Aside0.mk (B_kept G5.out hk (by have h_ := ZZ.out; omega))
  replace HB := Aside0.mk hb2
  replace ZZ := Aside0.mk (And.intro ZZ.out (show w7_.heap.size ≤ w8_.heap.size from hk.1))
  have BK5 := Aside0.mk bo
  clear bo hk hb2
  have hz_BK5_0 : w8_.cell? ⟨g5_, 0, none⟩ = some (.int .i64 q0) := (blk_cell BK5.out 0).trans rfl
  have hz_BK5_1 : w8_.cell? ⟨g5_, 1, none⟩ = some (.slice A_G1 rb1.length c_G1) := (blk_cell BK5.out 1).trans rfl
  have hz_BK5_2 : w8_.cell? ⟨g5_, 2, none⟩ = some (.int .i64 q2) := (blk_cell BK5.out 2).trans rfl
  have hz_BK5_3 : w8_.cell? ⟨g5_, 3, none⟩ = some (.int .i64 q3) := (blk_cell BK5.out 3).trans rfl
  have hz_BK5_4 : w8_.cell? ⟨g5_, 4, none⟩ = some (.int .i64 q4) := (blk_cell BK5.out 4).trans rfl
  have hz_BK5_5 : w8_.cell? ⟨g5_, 5, none⟩ = some (.slice A_G5 rb5.length c_G5) := (blk_cell BK5.out 5).trans rfl
  have hz_BK5_6 : w8_.cell? ⟨g5_, 6, none⟩ = some (.int .i64 q6) := (blk_cell BK5.out 6).trans rfl
  have hz_BK3_0 : w8_.cell? ⟨g3_, 0, none⟩ = some (.int .i64 q0) := (blk_cell BK3.out 0).trans rfl
  have hz_BK3_1 : w8_.cell? ⟨g3_, 1, none⟩ = some (.slice A_W1 rb1.length c_W1) := (blk_cell BK3.out 1).trans rfl
  have hz_BK3_2 : w8_.cell? ⟨g3_, 2, none⟩ = some (.int .i64 q2) := (blk_cell BK3.out 2).trans rfl
  have hz_BK3_3 : w8_.cell? ⟨g3_, 3, none⟩ = some (.int .i64 q3) := (blk_cell BK3.out 3).trans rfl
  have hz_BK3_4 : w8_.cell? ⟨g3_, 4, none⟩ = some (.int .i64 q4) := (blk_cell BK3.out 4).trans rfl
  have hz_BK3_5 : w8_.cell? ⟨g3_, 5, none⟩ = some (.slice A_W5 rb5.length c_W5) := (blk_cell BK3.out 5).trans rfl
  have hz_BK3_6 : w8_.cell? ⟨g3_, 6, none⟩ = some (.int .i64 q6) := (blk_cell BK3.out 6).trans rfl
  go_wp2_with (first | (go_at_call 70; refine hold_here ?_))
  refine hold_go ?_
  refine (laws_eqHeadResult.calls _ q0 A_G1 c_G1 rb1 q2 q3 q4 A_G5 c_G5 rb5 q6 q0 A_W1 c_W1 rb1 q2 q3 q4 A_W5 c_W5 rb5 q6 true _ ?s1 ?s2 ?s3 ?s4 ?s5 ?s6 ?s7 ?s8 H_eqr.out).mono ?_
  case s1 => exact (Kd.R_reads' G1.out).2.2
  case s2 => exact (Kd.R_reads' G1.out).2.1
  case s3 => exact (Kd.R_reads' G5.out).2.2
  case s4 => exact (Kd.R_reads' G5.out).2.1
  case s5 => exact (Kd.R_reads' W1.out).2.2
  case s6 => exact (Kd.R_reads' W1.out).2.1
  case s7 => exact (Kd.R_reads' W5.out).2.2
  case s8 => exact (Kd.R_reads' W5.out).2.1
  rintro e w9_ ⟨rfl, hb⟩
  replace W1 := Aside0.mk (Kd.R_below W1.out hb)
  replace W5 := Aside0.mk (Kd.R_below W5.out hb)
  replace BK3 := Aside0.mk (blk_below BK3.out hb)
  replace Y0 := Aside0.mk (Kd.R_below Y0.out hb)
  replace G1 := Aside0.mk (Kd.R_below G1.out hb)
  replace G5 := Aside0.mk (Kd.R_below G5.out hb)
  replace BK5 := Aside0.mk (blk_below BK5.out hb)
  replace HB := Aside0.mk (below_step HB.out hb)
  clear hz_BK5_0 hz_BK5_1 hz_BK5_2 hz_BK5_3 hz_BK5_4 hz_BK5_5 hz_BK5_6 hz_BK3_0 hz_BK3_1 hz_BK3_2 hz_BK3_3 hz_BK3_4 hz_BK3_5 hz_BK3_6
  replace ZZ := Aside0.mk (And.intro ZZ.out (show w8_.heap.size ≤ w9_.heap.size from hb.size))
  clear hb
  go_wp2_with (first | (go_at_call 37; refine hold_here ?_))
  refine hold_go ?_
  refine (laws_toByteS.calls _ A0 c0 l0 l0 _ ?s1 ?s2 H_t0.out).mono ?_
  case s1 => exact Kd.C_below HR0.out HB.out
  case s2 => exact HC0.out
  rintro e w10_ ⟨v, rfl, ho, hb⟩
  replace W1 := Aside0.mk (Kd.R_below W1.out hb)
  replace W5 := Aside0.mk (Kd.R_below W5.out hb)
  replace BK3 := Aside0.mk (blk_below BK3.out hb)
  replace Y0 := Aside0.mk (Kd.R_below Y0.out hb)
  replace G1 := Aside0.mk (Kd.R_below G1.out hb)
  replace G5 := Aside0.mk (Kd.R_below G5.out hb)
  replace BK5 := Aside0.mk (blk_below BK5.out hb)
  replace HB := Aside0.mk (below_step HB.out hb)
  replace ZZ := Aside0.mk (And.intro ZZ.out (show w9_.heap.size ≤ w10_.heap.size from hb.size))
  obtain ⟨A_T0, c_T0, ev_, hA_T0⟩ := B_of_R (base := w.heap.size) ho (show w.heap.size ≤ w9_.heap.size from (by have h_ := ZZ.out; omega))
  subst ev_
  have T0 := Aside0.mk (show Kd.R (Kd.int .u8) 5 w10_ w.heap.size (In w9_.heap.size w10_.heap.size) (.slice A_T0 l0.length c_T0) l0 from hA_T0)
  clear hA_T0 ho
  clear hb
  go_wp2_with (first | (go_at_call 40; refine hold_here ?_))
  refine hold_go ?_
  refine (laws_eqByteS.calls _ A_Y0 c_Y0 l0 A_T0 c_T0 l0 true _ ?s1 ?s2 ?s3 ?s4 H_e0.out).mono ?_
  case s1 => exact (Kd.R_reads' Y0.out).2.2
  case s2 => exact (Kd.R_reads' Y0.out).2.1
  case s3 => exact (Kd.R_reads' T0.out).2.2
  case s4 => exact (Kd.R_reads' T0.out).2.1
  rintro e w11_ ⟨rfl, hd⟩
  have hb := hd.below
  clear hd
  replace W1 := Aside0.mk (Kd.R_below W1.out hb)
  replace W5 := Aside0.mk (Kd.R_below W5.out hb)
  replace BK3 := Aside0.mk (blk_below BK3.out hb)
  replace Y0 := Aside0.mk (Kd.R_below Y0.out hb)
  replace G1 := Aside0.mk (Kd.R_below G1.out hb)
  replace G5 := Aside0.mk (Kd.R_below G5.out hb)
  replace BK5 := Aside0.mk (blk_below BK5.out hb)
  replace T0 := Aside0.mk (Kd.R_below T0.out hb)
  replace HB := Aside0.mk (below_step HB.out hb)
  replace ZZ := Aside0.mk (And.intro ZZ.out (show w10_.heap.size ≤ w11_.heap.size from hb.size))
  clear hb
  clear T0
  go_wp2_with (first | (go_at_call 41; refine hold_here ?_))
  refine hold_go ?_
  refine (laws_markByteS.calls _ (In w4_.heap.size w5_.heap.size) (.slice A_Y0 l0.length c_Y0) l0 (1) _ _ w _ ?s1 ?s2 H_m0.out).mono ?_
  case s1 => exact HB.out
  case s2 => exact Y0.out
  rintro e w12_ ⟨rfl, hR, hb2, hk⟩
  clear Y0
  replace W1 := Aside0.mk (B_kept W1.out hk (by have h_ := ZZ.out; omega))
  replace W5 := Aside0.mk (B_kept W5.out hk (by have h_ := ZZ.out; omega))
  replace BK3 := Aside0.mk (blk_keptIn BK3.out hk (by have h_ := ZZ.out; omega))
  replace G1 := Aside0.mk (B_kept G1.out hk (by have h_ := ZZ.out; omega))
  replace G5 := Aside0.mk (B_kept G5.out hk (by have h_ := ZZ.out; omega))
  replace BK5 := Aside0.mk (blk_keptIn BK5.out hk (by have h_ := ZZ.out; omega))
  replace HB := Aside0.mk hb2
  replace ZZ := Aside0.mk (And.intro ZZ.out (show w11_.heap.size ≤ w12_.heap.size from hk.1))
  clear hR
  clear hk hb2
  have hz_BK5_0 : w12_.cell? ⟨g5_, 0, none⟩ = some (.int .i64 q0) := (blk_cell BK5.out 0).trans rfl
  have hz_BK5_1 : w12_.cell? ⟨g5_, 1, none⟩ = some (.slice A_G1 rb1.length c_G1) := (blk_cell BK5.out 1).trans rfl
  have hz_BK5_2 : w12_.cell? ⟨g5_, 2, none⟩ = some (.int .i64 q2) := (blk_cell BK5.out 2).trans rfl
  have hz_BK5_3 : w12_.cell? ⟨g5_, 3, none⟩ = some (.int .i64 q3) := (blk_cell BK5.out 3).trans rfl
  have hz_BK5_4 : w12_.cell? ⟨g5_, 4, none⟩ = some (.int .i64 q4) := (blk_cell BK5.out 4).trans rfl
  have hz_BK5_5 : w12_.cell? ⟨g5_, 5, none⟩ = some (.slice A_G5 rb5.length c_G5) := (blk_cell BK5.out 5).trans rfl
  have hz_BK5_6 : w12_.cell? ⟨g5_, 6, none⟩ = some (.int .i64 q6) := (blk_cell BK5.out 6).trans rfl
  have hz_BK3_0 : w12_.cell? ⟨g3_, 0, none⟩ = some (.int .i64 q0) := (blk_cell BK3.out 0).trans rfl
  have hz_BK3_1 : w12_.cell? ⟨g3_, 1, none⟩ = some (.slice A_W1 rb1.length c_W1) := (blk_cell BK3.out 1).trans rfl
  have hz_BK3_2 : w12_.cell? ⟨g3_, 2, none⟩ = some (.int .i64 q2) := (blk_cell BK3.out 2).trans rfl
  have hz_BK3_3 : w12_.cell? ⟨g3_, 3, none⟩ = some (.int .i64 q3) := (blk_cell BK3.out 3).trans rfl
  have hz_BK3_4 : w12_.cell? ⟨g3_, 4, none⟩ = some (.int .i64 q4) := (blk_cell BK3.out 4).trans rfl
  have hz_BK3_5 : w12_.cell? ⟨g3_, 5, none⟩ = some (.slice A_W5 rb5.length c_W5) := (blk_cell BK3.out 5).trans rfl
  have hz_BK3_6 : w12_.cell? ⟨g3_, 6, none⟩ = some (.int .i64 q6) := (blk_cell BK3.out 6).trans rfl
  go_wp2_with (first | (go_at_call 70; refine hold_here ?_))
  refine hold_go ?_
  refine (laws_eqHeadResult.calls _ q0 A_G1 c_G1 rb1 q2 q3 q4 A_G5 c_G5 rb5 q6 q0 A_W1 c_W1 rb1 q2 q3 q4 A_W5 c_W5 rb5 q6 true _ ?s1 ?s2 ?s3 ?s4 ?s5 ?s6 ?s7 ?s8 H_eqr.out).mono ?_
  case s1 => exact (Kd.R_reads' G1.out).2.2
  case s2 => exact (Kd.R_reads' G1.out).2.1
  case s3 => exact (Kd.R_reads' G5.out).2.2
  case s4 => exact (Kd.R_reads' G5.out).2.1
  case s5 => exact (Kd.R_reads' W1.out).2.2
  case s6 => exact (Kd.R_reads' W1.out).2.1
  case s7 => exact (Kd.R_reads' W5.out).2.2
  case s8 => exact (Kd.R_reads' W5.out).2.1
  rintro e w13_ ⟨rfl, hb⟩
  replace W1 := Aside0.mk (Kd.R_below W1.out hb)
  replace W5 := Aside0.mk (Kd.R_below W5.out hb)
  replace BK3 := Aside0.mk (blk_below BK3.out hb)
  replace G1 := Aside0.mk (Kd.R_below G1.out hb)
  replace G5 := Aside0.mk (Kd.R_below G5.out hb)
  replace BK5 := Aside0.mk (blk_below BK5.out hb)
  replace HB := Aside0.mk (below_step HB.out hb)
  clear hz_BK5_0 hz_BK5_1 hz_BK5_2 hz_BK5_3 hz_BK5_4 hz_BK5_5 hz_BK5_6 hz_BK3_0 hz_BK3_1 hz_BK3_2 hz_BK3_3 hz_BK3_4 hz_BK3_5 hz_BK3_6
  replace ZZ := Aside0.mk (And.intro ZZ.out (show w12_.heap.size ≤ w13_.heap.size from hb.size))
  clear hb
  have hz_BK5_0 : w13_.cell? ⟨g5_, 0, none⟩ = some (.int .i64 q0) := (blk_cell BK5.out 0).trans rfl
  have hz_BK5_1 : w13_.cell? ⟨g5_, 1, none⟩ = some (.slice A_G1 rb1.length c_G1) := (blk_cell BK5.out 1).trans rfl
  have hz_BK5_2 : w13_.cell? ⟨g5_, 2, none⟩ = some (.int .i64 q2) := (blk_cell BK5.out 2).trans rfl
  have hz_BK5_3 : w13_.cell? ⟨g5_, 3, none⟩ = some (.int .i64 q3) := (blk_cell BK5.out 3).trans rfl
  have hz_BK5_4 : w13_.cell? ⟨g5_, 4, none⟩ = some (.int .i64 q4) := (blk_cell BK5.out 4).trans rfl
  have hz_BK5_5 : w13_.cell? ⟨g5_, 5, none⟩ = some (.slice A_G5 rb5.length c_G5) := (blk_cell BK5.out 5).trans rfl
  have hz_BK5_6 : w13_.cell? ⟨g5_, 6, none⟩ = some (.int .i64 q6) := (blk_cell BK5.out 6).trans rfl
  have XO1 := Aside0.mk G1.out
  have XO2 := Aside0.mk G5.out
  go_wp2_with (first | (go_at_call 71; refine hold_here ?_))
  refine hold_go ?_
  refine (laws_markHeadResult.calls _ q0 (fun k_ => some k_ = (.slice A_G1 rb1.length c_G1 : Value).ownBlock) (.slice A_G1 rb1.length c_G1 : Value) rb1 q2 q3 q4 (fun k_ => some k_ = (.slice A_G5 rb5.length c_G5 : Value).ownBlock) (.slice A_G5 rb5.length c_G5 : Value) rb5 q6 1 _ mr1 mr2 w _ ?s1 ?s2 ?s3 ?s4 ?s5 H_mr.out).mono ?_
  case s1 => exact HB.out
  case s2 => exact Kd.R_tight rfl G1.out
  case s3 => exact fun k h1 h2 => HAPG.out k h1.symm h2.symm
  case s4 => exact Kd.R_tight rfl G5.out
  case s5 => exact fun k h1 h2 => HAPG.out k h2.symm h1.symm
  rintro e w14_ ⟨rfl, hR1, hR2, hb2, hk0⟩
  have hk := hk0.mono (S' := In w5_.heap.size w6_.heap.size) (fun k h => h.elim (fun e => XO1.out.1 k e.symm) (fun e => XO2.out.1 k e.symm))
  clear hk0
  clear G1
  clear G5
  replace W1 := Aside0.mk (B_kept W1.out hk (by have h_ := ZZ.out; omega))
  replace W5 := Aside0.mk (B_kept W5.out hk (by have h_ := ZZ.out; omega))
  replace BK3 := Aside0.mk (blk_keptIn BK3.out hk (by have h_ := ZZ.out; omega))
  replace BK5 := Aside0.mk (blk_keptIn BK5.out hk (by have h_ := ZZ.out; omega))
  replace HB := Aside0.mk hb2
  clear hz_BK5_0 hz_BK5_1 hz_BK5_2 hz_BK5_3 hz_BK5_4 hz_BK5_5 hz_BK5_6
  replace ZZ := Aside0.mk (And.intro ZZ.out (show w13_.heap.size ≤ w14_.heap.size from hk.1))
  have G1 := Aside0.mk (B_tight XO1.out hR1)
  have G5 := Aside0.mk (B_tight XO2.out hR2)
  clear hR1 hR2 XO1 XO2
  clear hk hb2
  have hz_BK5_0 : w14_.cell? ⟨g5_, 0, none⟩ = some (.int .i64 q0) := (blk_cell BK5.out 0).trans rfl
  have hz_BK5_1 : w14_.cell? ⟨g5_, 1, none⟩ = some (.slice A_G1 rb1.length c_G1) := (blk_cell BK5.out 1).trans rfl
  have hz_BK5_2 : w14_.cell? ⟨g5_, 2, none⟩ = some (.int .i64 q2) := (blk_cell BK5.out 2).trans rfl
  have hz_BK5_3 : w14_.cell? ⟨g5_, 3, none⟩ = some (.int .i64 q3) := (blk_cell BK5.out 3).trans rfl
  have hz_BK5_4 : w14_.cell? ⟨g5_, 4, none⟩ = some (.int .i64 q4) := (blk_cell BK5.out 4).trans rfl
  have hz_BK5_5 : w14_.cell? ⟨g5_, 5, none⟩ = some (.slice A_G5 rb5.length c_G5) := (blk_cell BK5.out 5).trans rfl
  have hz_BK5_6 : w14_.cell? ⟨g5_, 6, none⟩ = some (.int .i64 q6) := (blk_cell BK5.out 6).trans rfl
  go_wp2_with (first | (go_at_call 72; refine hold_here ?_))
  refine hold_go ?_
  refine (heldHeadResult_len _ q0 q2 q3 q4 q6 A_G1 c_G1 A_G5 c_G5 mr1 rb1.length H_r1.out mr2 rb5.length H_r2.out 1 _ _ ?s1 ?s2 ?s3 ?s4 H_hr.out).mono ?_
  case s1 => exact (Kd.R_reads' G1.out).2.2
  case s2 => exact (Kd.R_reads' G1.out).2.1
  case s3 => exact (Kd.R_reads' G5.out).2.2
  case s4 => exact (Kd.R_reads' G5.out).2.1
  rintro e w15_ ⟨rfl, hb⟩
  replace W1 := Aside0.mk (Kd.R_below W1.out hb)
  replace W5 := Aside0.mk (Kd.R_below W5.out hb)
  replace BK3 := Aside0.mk (blk_below BK3.out hb)
  replace BK5 := Aside0.mk (blk_below BK5.out hb)
  replace G1 := Aside0.mk (Kd.R_below G1.out hb)
  replace G5 := Aside0.mk (Kd.R_below G5.out hb)
  replace HB := Aside0.mk (below_step HB.out hb)
  clear hz_BK5_0 hz_BK5_1 hz_BK5_2 hz_BK5_3 hz_BK5_4 hz_BK5_5 hz_BK5_6
  replace ZZ := Aside0.mk (And.intro ZZ.out (show w14_.heap.size ≤ w15_.heap.size from hb.size))
  clear hb
  go_wp2_with (first | (go_at_call 37; refine hold_here ?_))
  refine hold_go ?_
  refine (laws_toByteS.calls _ A0 c0 l0 l0 _ ?s1 ?s2 H_t0.out).mono ?_
  case s1 => exact Kd.C_below HR0.out HB.out
  case s2 => exact HC0.out
  rintro e w16_ ⟨v, rfl, ho, hb⟩
  replace W1 := Aside0.mk (Kd.R_below W1.out hb)
  replace W5 := Aside0.mk (Kd.R_below W5.out hb)
  replace BK3 := Aside0.mk (blk_below BK3.out hb)
  replace BK5 := Aside0.mk (blk_below BK5.out hb)
  replace G1 := Aside0.mk (Kd.R_below G1.out hb)
  replace G5 := Aside0.mk (Kd.R_below G5.out hb)
  replace HB := Aside0.mk (below_step HB.out hb)
  replace ZZ := Aside0.mk (And.intro ZZ.out (show w15_.heap.size ≤ w16_.heap.size from hb.size))
  obtain ⟨A_T0, c_T0, ev_, hA_T0⟩ := B_of_R (base := w.heap.size) ho (show w.heap.size ≤ w15_.heap.size from (by have h_ := ZZ.out; omega))
  subst ev_
  have T0 := Aside0.mk (show Kd.R (Kd.int .u8) 5 w16_ w.heap.size (In w15_.heap.size w16_.heap.size) (.slice A_T0 l0.length c_T0) l0 from hA_T0)
  clear hA_T0 ho
  clear hb
  go_wp2_with (first | (go_at_call 69; refine hold_here ?_))
  refine hold_go ?_
  refine (H_impl.out A_T0 c_T0 _ ?s1 ?s2).mono ?_
  case s1 => exact (Kd.R_reads' T0.out).2.2
  case s2 => exact (Kd.R_reads' T0.out).2.1
  rintro e w17_ ⟨va_, vb_, rfl, ho1, ho5, hb⟩
  replace W1 := Aside0.mk (Kd.R_below W1.out hb)
  replace W5 := Aside0.mk (Kd.R_below W5.out hb)
  replace BK3 := Aside0.mk (blk_below BK3.out hb)
  replace BK5 := Aside0.mk (blk_below BK5.out hb)
  replace G1 := Aside0.mk (Kd.R_below G1.out hb)
  replace G5 := Aside0.mk (Kd.R_below G5.out hb)
  replace T0 := Aside0.mk (Kd.R_below T0.out hb)
  replace HB := Aside0.mk (below_step HB.out hb)
  replace ZZ := Aside0.mk (And.intro ZZ.out (show w16_.heap.size ≤ w17_.heap.size from hb.size))
  obtain ⟨A_H1, c_H1, ev_, hA_H1⟩ := B_of_R (base := w.heap.size) ho1 (show w.heap.size ≤ w16_.heap.size from (by have h_ := ZZ.out; omega))
  subst ev_
  have H1 := Aside0.mk (show Kd.R (Kd.int .u8) 5 w17_ w.heap.size (In w16_.heap.size w17_.heap.size) (.slice A_H1 rb1.length c_H1) rb1 from hA_H1)
  clear hA_H1 ho1
  obtain ⟨A_H5, c_H5, ev_, hA_H5⟩ := B_of_R (base := w.heap.size) ho5 (show w.heap.size ≤ w16_.heap.size from (by have h_ := ZZ.out; omega))
  subst ev_
  have H5 := Aside0.mk (show Kd.R (Kd.int .u8) 5 w17_ w.heap.size (In w16_.heap.size w17_.heap.size) (.slice A_H5 rb5.length c_H5) rb5 from hA_H5)
  clear hA_H5 ho5
  clear hb
  go_wp2_with (first | ((with_reducible refine gate_dst (N := 9) rfl ?_); refine hold_here ?_))
  refine hold_go ?_
  refine box_event (N := 9) (cs := #[.int .i64 0, .slice none 0 0, .int .i64 0, .int .i64 0, .int .i64 0, .slice none 0 0, .int .i64 0]) (t := 81) ?hgb rfl ?hrb ?_
  case hgb => rfl
  case hrb => first | (go_simp; done) | (go_simp; rfl)
  intro g9_ hg w18_ hbox hb
  replace W1 := Aside0.mk (Kd.R_below W1.out hb)
  replace W5 := Aside0.mk (Kd.R_below W5.out hb)
  replace BK3 := Aside0.mk (blk_below BK3.out hb)
  replace BK5 := Aside0.mk (blk_below BK5.out hb)
  replace G1 := Aside0.mk (Kd.R_below G1.out hb)
  replace G5 := Aside0.mk (Kd.R_below G5.out hb)
  replace T0 := Aside0.mk (Kd.R_below T0.out hb)
  replace H1 := Aside0.mk (Kd.R_below H1.out hb)
  replace H5 := Aside0.mk (Kd.R_below H5.out hb)
  replace HB := Aside0.mk (below_step HB.out hb)
  replace ZZ := Aside0.mk (And.intro ZZ.out (show w17_.heap.size ≤ w18_.heap.size from hb.size))
  have BK9 := Aside0.mk hbox
  replace ZZ := Aside0.mk (And.intro ZZ.out (And.intro (show g9_ = w17_.heap.size from hg) (show g9_ < w18_.heap.size from blk_lt hbox)))
  clear hb hbox hg
  go_wp2_with (first | ((with_reducible refine gate_store (t := 81) (p := 9) (v := .tmp 53) rfl ?_); refine hold_here ?_))
  refine hold_go ?_
  refine row_store rfl 81 (.tmp 9) (.tmp 53) rfl g9_ #[.int .i64 q0, .slice A_H1 rb1.length c_H1, .int .i64 q2, .int .i64 q3, .int .i64 q4, .slice A_H5 rb5.length c_H5, .int .i64 q6] rfl ?hy 81 _ BK9.out ?hi ?ho ?h1 rfl HB.out (show w.heap.size ≤ g9_ from (by have h_ := ZZ.out; omega)) ?_
  case hy => rfl
  case hi => kernel_rfl
  case ho => rfl
  case h1 => first | rfl | (simp [Value.oneCell']; done) | (go_simp; done)
  intro w19_ bo hk hb2
  clear BK9
  replace W1 := Aside0.mk (B_kept W1.out hk (by have h_ := ZZ.out; omega))
  replace W5 := Aside0.mk (B_kept W5.out hk (by have h_ := ZZ.out; omega))
  replace BK3 := Aside0.mk (blk_keptIn BK3.out hk (by have h_ := ZZ.out; omega))
  replace BK5 := Aside0.mk (blk_keptIn BK5.out hk (by have h_ := ZZ.out; omega))
  replace G1 := Aside0.mk (B_kept G1.out hk (by have h_ := ZZ.out; omega))
  replace G5 := Aside0.mk (B_kept G5.out hk (by have h_ := ZZ.out; omega))
  replace T0 := Aside0.mk (B_kept T0.out hk (by have h_ := ZZ.out; omega))
  replace H1 := Aside0.mk (B_kept H1.out hk (by have h_ := ZZ.out; omega))
  replace H5 := Aside0.mk (B_kept H5.out hk (by have h_ := ZZ.out; omega))
  replace HB := Aside0.mk hb2
  replace ZZ := Aside0.mk (And.intro ZZ.out (show w18_.heap.size ≤ w19_.heap.size from hk.1))
  have BK9 := Aside0.mk bo
  clear bo hk hb2
  have hz_BK9_0 : w19_.cell? ⟨g9_, 0, none⟩ = some (.int .i64 q0) := (blk_cell BK9.out 0).trans rfl
  have hz_BK9_1 : w19_.cell? ⟨g9_, 1, none⟩ = some (.slice A_H1 rb1.length c_H1) := (blk_cell BK9.out 1).trans rfl
  have hz_BK9_2 : w19_.cell? ⟨g9_, 2, none⟩ = some (.int .i64 q2) := (blk_cell BK9.out 2).trans rfl
  have hz_BK9_3 : w19_.cell? ⟨g9_, 3, none⟩ = some (.int .i64 q3) := (blk_cell BK9.out 3).trans rfl
  have hz_BK9_4 : w19_.cell? ⟨g9_, 4, none⟩ = some (.int .i64 q4) := (blk_cell BK9.out 4).trans rfl
  have hz_BK9_5 : w19_.cell? ⟨g9_, 5, none⟩ = some (.slice A_H5 rb5.length c_H5) := (blk_cell BK9.out 5).trans rfl
  have hz_BK9_6 : w19_.cell? ⟨g9_, 6, none⟩ = some (.int .i64 q6) := (blk_cell BK9.out 6).trans rfl
  have hz_BK3_0 : w19_.cell? ⟨g3_, 0, none⟩ = some (.int .i64 q0) := (blk_cell BK3.out 0).trans rfl
  have hz_BK3_1 : w19_.cell? ⟨g3_, 1, none⟩ = some (.slice A_W1 rb1.length c_W1) := (blk_cell BK3.out 1).trans rfl
  have hz_BK3_2 : w19_.cell? ⟨g3_, 2, none⟩ = some (.int .i64 q2) := (blk_cell BK3.out 2).trans rfl
  have hz_BK3_3 : w19_.cell? ⟨g3_, 3, none⟩ = some (.int .i64 q3) := (blk_cell BK3.out 3).trans rfl
  have hz_BK3_4 : w19_.cell? ⟨g3_, 4, none⟩ = some (.int .i64 q4) := (blk_cell BK3.out 4).trans rfl
  have hz_BK3_5 : w19_.cell? ⟨g3_, 5, none⟩ = some (.slice A_W5 rb5.length c_W5) := (blk_cell BK3.out 5).trans rfl
  have hz_BK3_6 : w19_.cell? ⟨g3_, 6, none⟩ = some (.int .i64 q6) := (blk_cell BK3.out 6).trans rfl
  go_wp2_with (first | (go_at_call 70; refine hold_here ?_))
  refine hold_go ?_
  refine (laws_eqHeadResult.calls _ q0 A_H1 c_H1 rb1 q2 q3 q4 A_H5 c_H5 rb5 q6 q0 A_W1 c_W1 rb1 q2 q3 q4 A_W5 c_W5 rb5 q6 true _ ?s1 ?s2 ?s3 ?s4 ?s5 ?s6 ?s7 ?s8 H_eqr.out).mono ?_
  case s1 => exact (Kd.R_reads' H1.out).2.2
  case s2 => exact (Kd.R_reads' H1.out).2.1
  case s3 => exact (Kd.R_reads' H5.out).2.2
  case s4 => exact (Kd.R_reads' H5.out).2.1
  case s5 => exact (Kd.R_reads' W1.out).2.2
  case s6 => exact (Kd.R_reads' W1.out).2.1
  case s7 => exact (Kd.R_reads' W5.out).2.2
  case s8 => exact (Kd.R_reads' W5.out).2.1
  rintro e w20_ ⟨rfl, hb⟩
  replace W1 := Aside0.mk (Kd.R_below W1.out hb)
  replace W5 := Aside0.mk (Kd.R_below W5.out hb)
  replace BK3 := Aside0.mk (blk_below BK3.out hb)
  replace BK5 := Aside0.mk (blk_below BK5.out hb)
  replace G1 := Aside0.mk (Kd.R_below G1.out hb)
  replace G5 := Aside0.mk (Kd.R_below G5.out hb)
  replace T0 := Aside0.mk (Kd.R_below T0.out hb)
  replace H1 := Aside0.mk (Kd.R_below H1.out hb)
  replace H5 := Aside0.mk (Kd.R_below H5.out hb)
  replace BK9 := Aside0.mk (blk_below BK9.out hb)
  replace HB := Aside0.mk (below_step HB.out hb)
  clear hz_BK9_0 hz_BK9_1 hz_BK9_2 hz_BK9_3 hz_BK9_4 hz_BK9_5 hz_BK9_6 hz_BK3_0 hz_BK3_1 hz_BK3_2 hz_BK3_3 hz_BK3_4 hz_BK3_5 hz_BK3_6
  replace ZZ := Aside0.mk (And.intro ZZ.out (show w19_.heap.size ≤ w20_.heap.size from hb.size))
  clear hb
  have hz_BK5_0 : w20_.cell? ⟨g5_, 0, none⟩ = some (.int .i64 q0) := (blk_cell BK5.out 0).trans rfl
  have hz_BK5_1 : w20_.cell? ⟨g5_, 1, none⟩ = some (.slice A_G1 rb1.length c_G1) := (blk_cell BK5.out 1).trans rfl
  have hz_BK5_2 : w20_.cell? ⟨g5_, 2, none⟩ = some (.int .i64 q2) := (blk_cell BK5.out 2).trans rfl
  have hz_BK5_3 : w20_.cell? ⟨g5_, 3, none⟩ = some (.int .i64 q3) := (blk_cell BK5.out 3).trans rfl
  have hz_BK5_4 : w20_.cell? ⟨g5_, 4, none⟩ = some (.int .i64 q4) := (blk_cell BK5.out 4).trans rfl
  have hz_BK5_5 : w20_.cell? ⟨g5_, 5, none⟩ = some (.slice A_G5 rb5.length c_G5) := (blk_cell BK5.out 5).trans rfl
  have hz_BK5_6 : w20_.cell? ⟨g5_, 6, none⟩ = some (.int .i64 q6) := (blk_cell BK5.out 6).trans rfl
  go_wp2_with (first | (go_at_call 72; refine hold_here ?_))
  refine hold_go ?_
  refine (heldHeadResult_len _ q0 q2 q3 q4 q6 A_G1 c_G1 A_G5 c_G5 mr1 rb1.length H_r1.out mr2 rb5.length H_r2.out 1 _ _ ?s1 ?s2 ?s3 ?s4 H_hr.out).mono ?_
  case s1 => exact (Kd.R_reads' G1.out).2.2
  case s2 => exact (Kd.R_reads' G1.out).2.1
  case s3 => exact (Kd.R_reads' G5.out).2.2
  case s4 => exact (Kd.R_reads' G5.out).2.1
  rintro e w21_ ⟨rfl, hb⟩
  replace W1 := Aside0.mk (Kd.R_below W1.out hb)
  replace W5 := Aside0.mk (Kd.R_below W5.out hb)
  replace BK3 := Aside0.mk (blk_below BK3.out hb)
  replace BK5 := Aside0.mk (blk_below BK5.out hb)
  replace G1 := Aside0.mk (Kd.R_below G1.out hb)
  replace G5 := Aside0.mk (Kd.R_below G5.out hb)
  replace T0 := Aside0.mk (Kd.R_below T0.out hb)
  replace H1 := Aside0.mk (Kd.R_below H1.out hb)
  replace H5 := Aside0.mk (Kd.R_below H5.out hb)
  replace BK9 := Aside0.mk (blk_below BK9.out hb)
  replace HB := Aside0.mk (below_step HB.out hb)
  clear hz_BK5_0 hz_BK5_1 hz_BK5_2 hz_BK5_3 hz_BK5_4 hz_BK5_5 hz_BK5_6
  replace ZZ := Aside0.mk (And.intro ZZ.out (show w20_.heap.size ≤ w21_.heap.size from hb.size))
  clear hb
  go_wp2
  go_ret
  exact ⟨rfl, HB.out⟩
theorem law_UnpackHead_big0 (A0 : Option Addr) (c0 : Nat) (l0 : List Int) (w : World)  (hlen0 : ¬ l0.length ≤ 1048576) :
    Calls Try.prog 13 #[.slice A0 l0.length c0] w fun e w' => e = .returned (.bool true) ∧ Below w.heap.size w w' := by
  have cg0_ : decide ((l0.length : Int) > 1048576) = true := decide_eq_true (by omega)
  have ch0_ : decide ((1048576 : Int) < (l0.length : Int)) = true := decide_eq_true (by omega)
  clear hlen0
  go_enter Try.func13, Try.ntmps13
  go_wp2
  go_ret
  exact ⟨rfl, Below.refl _ _⟩

end Go.Proofs.Ytmmhghddldhogaa.S

/- DIRECT: the law FnExactUnpackHead returns true at every argument: the program's UnpackHead and the reference's answer alike, in new memory. No condition. -/
set_option linter.unusedVariables false
namespace Go.Proofs.Ytmmhghddldhogaa.Pure
open Go Go.RowKit Go.Proofs.Ytmmhghddldhogaa.S Go.Proofs.YtmmhghddldhogaaW.PrintWords Go.Proofs.YtmmhghddldhogaaW.PrintLast Go.Proofs.YtmmhghddldhogaaW.PrintMore Go.Proofs.Ytmmhghddldhogaa.Base

theorem FnExactUnpackHead (l0 : List Int) (hl : l0.length ≤ 9223372036854775807) (hw : ∀ y ∈ l0, (Lit.int .u8 y).wf = true) (A0 : Option Addr) (c0 : Nat) (w : World) (hr0 : Kd.C (Kd.int .u8) w A0 l0.length l0) (hc0 : l0.length ≤ c0) :
    Calls Try.prog 13 #[.slice A0 l0.length c0] w fun e w' => e = .returned (.bool true) ∧ Below w.heap.size w w' := by
  by_cases hlen : l0.length ≤ 1048576
  · have hy := byt_of_wf hw
    have hi := fun (B : Option Addr) (d : Nat) (W : World) hB hd => upHead_impl hy B d W hB hd
    have hs := fun (B : Option Addr) (d : Nat) (W : World) hB hd => upHead_spec hy B d W hB hd
    have hn : (upHeadV l0).2.1.length ≤ 32 ∧ (upHeadV l0).2.2.2.2.2.1.length ≤ 32 := by
      unfold upHeadV
      rcases six_or (unpackV l0).2.2 with h | ⟨v0, v1, v2, v3, v4, v5, h⟩
      · rw [upHeadW_ne h]
        exact ⟨by simp, by simp⟩
      · rw [h]
        show ((if headIs v0 v1 v2 v3 v4 v5 then _ else _ : Int × List Int × Int × Int × Int × List Int × Int)).2.1.length ≤ 32 ∧ ((if headIs v0 v1 v2 v3 v4 v5 then _ else _ : Int × List Int × Int × Int × Int × List Int × Int)).2.2.2.2.2.1.length ≤ 32
        by_cases hh : headIs v0 v1 v2 v3 v4 v5
        · rw [if_pos hh]
          have := headFault_zero hh.2
          exact ⟨by show v0.length ≤ 32; omega, by show v4.length ≤ 32; omega⟩
        · rw [if_neg hh]
          exact ⟨by simp, by simp⟩
    generalize upHeadV l0 = r at *
    obtain ⟨r1, r2, r3, r4, r5, r6, r7⟩ := r
    simp only at hn
    obtain ⟨kt, ht⟩ := (toByteS_ev l0 (by omega)).rounds
    obtain ⟨kb, hb⟩ := (eqByteS_ev l0 (by omega)).rounds
    obtain ⟨km, hm⟩ := (markByteS_ev l0 1 (by omega) (by omega)).rounds
    obtain ⟨ke, he⟩ := (show Ev (fun k => laws_eqHeadResult.f k r1 r2 r3 r4 r5 r6 r7 r1 r2 r3 r4 r5 r6 r7) true from by
      unfold laws_eqHeadResult.f laws_eqHead.f
      exact ev_pos rfl (ev_bind (ev_bind (eqByteS_ev r2 (by omega)) (ev_pos rfl (ev_pos rfl (ev_pos rfl (ev_pos rfl (ev_bind (eqByteS_ev r6 (by omega)) (ev_pos rfl (ev_pos rfl (ev_now rfl))))))))) (ev_pos rfl (ev_now rfl)))).rounds
    obtain ⟨kr, hr⟩ := (show Ev (fun k => laws_markHeadResult.f k r1 r2 r3 r4 r5 r6 r7 1) (1 + (r2.length : Int) + (r6.length : Int), marked 1 r2.length, marked (1 + (r2.length : Int)) r6.length) from by
      unfold laws_markHeadResult.f laws_markHead.f
      exact ev_bind (ev_bind (markByteS_ev r2 1 (by omega) (by omega)) (ev_bind (markByteS_ev r6 (1 + (r2.length : Int)) (by omega) (by omega)) (ev_now rfl))) (ev_now rfl)).rounds
    obtain ⟨kh, hh⟩ := (show Ev (fun k => laws_heldHeadResult.f k r1 (marked 1 r2.length) r3 r4 r5 (marked (1 + (r2.length : Int)) r6.length) r7 1) (1 + (r2.length : Int) + (r6.length : Int)) from by
      unfold laws_heldHeadResult.f laws_heldHead.f
      exact ev_bind (ev_bind (heldByteS_ev r2.length 1 (by omega) (by omega)) (ev_neg (by omega) (ev_bind (heldByteS_ev r6.length (1 + (r2.length : Int)) (by omega) (by omega)) (ev_neg (by omega) (ev_now rfl))))) (ev_neg (by omega) (ev_now rfl))).rounds
    exact law_UnpackHead A0 c0 l0 r1 r2 r3 r4 r5 r6 r7 (marked 1 l0.length) (marked 1 r2.length) (marked (1 + (r2.length : Int)) r6.length) w hr0 hc0 hlen kb ke kh km kr kt ht hb hs hi he hm hr (marked_length 1 r2.length) (marked_length _ r6.length) hh
  · exact law_UnpackHead_big0 A0 c0 l0 w hlen
end Go.Proofs.Ytmmhghddldhogaa.Pure
