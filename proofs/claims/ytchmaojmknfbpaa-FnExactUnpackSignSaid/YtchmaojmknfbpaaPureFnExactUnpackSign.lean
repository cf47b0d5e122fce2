import Derived.Test.YtchmaojmknfbpaaBase
import Derived.Test.YtchmaojmknfbpaaSxLawsHelp
import Derived.Test.YtchmaojmknfbpaaSxImplPackedY
import Derived.Test.YtchmaojmknfbpaaSxImplUnpackWords
import Derived.Test.YtchmaojmknfbpaaSxBytesClone
import Derived.Test.YtchmaojmknfbpaaSx0
import Derived.Test.YtchmaojmknfbpaaSxSpecUnpackWords
import Derived.Test.YtchmaojmknfbpaaSxImplTree
import Derived.Test.YtchmaojmknfbpaaSxImplSmall
import Derived.Test.YtchmaojmknfbpaaSxImplIsProofY
import Derived.Test.YtchmaojmknfbpaaSxImplPathLength
import Derived.Test.YtchmaojmknfbpaaSxImplAreDigestsY
import Derived.Test.YtchmaojmknfbpaaSxSpecTree
import Derived.Test.YtchmaojmknfbpaaSxSpecL1
import Derived.Test.YtchmaojmknfbpaaSxLawsHelpSS
import Derived.Test.YtchmaojmknfbpaaSxSpecL3RightY
import Derived.Test.YtchmaojmknfbpaaSxSpecPathLength
import Derived.Test.YtchmaojmknfbpaaSxImplPackWords
import Derived.WalkSpells
import Derived.Laws.Tables
import Derived.Laws.CopyOwn
import Derived.Test.YtchmaojmknfbpaaSxImplSignatureIsPlacedM
import Derived.Test.YtchmaojmknfbpaaSxSpecL4RightY
import Derived.Test.YtchmaojmknfbpaaSxLawsHeldSignResultY
import Derived.Test.YtchmaojmknfbpaaSxLawsEqSignResultY
import Derived.Test.YtchmaojmknfbpaaSxLawsEqSignatureY
import Derived.Test.YtchmaojmknfbpaaSxLawsHeldSignatureY
/- What the laws' own helpers on byte slices come to: toByteS copies, eqByteS compares, markByteS and heldByteS count alike. For every slice that fits memory. -/
set_option linter.unusedVariables false
namespace Go.Proofs.Ytchmaojmknfbpaa.S
open Go.RowKit Go.Proofs.YtchmaojmknfbpaaW.PrintWords Go.Proofs.YtchmaojmknfbpaaW.PrintLast Go.Proofs.YtchmaojmknfbpaaW.PrintMore Go.Proofs.Ytchmaojmknfbpaa.Base

theorem toByteS_l0 (l : List Int) (hl : l.length ≤ 281474976710656) : ∀ (d : Nat) (x : List Int) (i : Nat), i + d = l.length → x.length = l.length → (∀ j, j < i → x[j]? = l[j]?) → Ev (fun k => laws_toByteS.l0 k l x (i : Int)) l := by
  intro d
  induction d with
  | zero =>
    intro x i hi hx hj
    refine ev_step (fun k => laws_toByteS.l0.eq_2 _ _ _ _) ?_
    refine ev_neg (by omega) ?_
    rw [fill_all hx (fun j h => hj j (by omega))]
    exact ev_now rfl
  | succ d ih =>
    intro x i hi hx hj
    refine ev_step (fun k => laws_toByteS.l0.eq_2 _ _ _ _) ?_
    refine ev_pos (by omega) ?_
    refine ev_pos (by omega) ?_
    refine ev_pos (by omega) ?_
    rw [w64s (by omega), Int.toNat_natCast]
    exact ih _ (i + 1) (by omega) (by rw [List.length_set]; exact hx) (fill_step (by omega) hx hj)
theorem toByteS_ev (l : List Int) (hl : l.length ≤ 281474976710656) : Ev (fun k => laws_toByteS.f k l) l := by
  unfold laws_toByteS.f
  refine ev_pos (by omega) ?_
  refine ev_pos (by omega) ?_
  exact toByteS_l0 l hl l.length _ 0 (by omega) (by simp) (fun j h => by omega)
theorem eqByteS_l0 (l : List Int) (hl : l.length ≤ 281474976710656) : ∀ (d i : Nat), i + d = l.length → Ev (fun k => laws_eqByteS.l0 k l l (i : Int)) true := by
  intro d
  induction d with
  | zero =>
    intro i hi
    refine ev_step (fun k => laws_eqByteS.l0.eq_2 _ _ _ _) ?_
    refine ev_neg (by omega) ?_
    exact ev_now rfl
  | succ d ih =>
    intro i hi
    refine ev_step (fun k => laws_eqByteS.l0.eq_2 _ _ _ _) ?_
    refine ev_pos (by omega) ?_
    refine ev_pos (by omega) ?_
    refine ev_pos (by omega) ?_
    refine ev_pos rfl ?_
    rw [w64s (by omega)]
    exact ih (i + 1) (by omega)
theorem eqByteS_ev (l : List Int) (hl : l.length ≤ 281474976710656) : Ev (fun k => laws_eqByteS.f k l l) true := by
  unfold laws_eqByteS.f
  refine ev_pos rfl ?_
  exact eqByteS_l0 l hl l.length 0 (by omega)
end Go.Proofs.Ytchmaojmknfbpaa.S

/- What the laws' markByteS and heldByteS come to: places are numbered from a start on, and found numbered so. For every slice and start that fit. -/
set_option linter.unusedVariables false
namespace Go.Proofs.Ytchmaojmknfbpaa.S
open Go.RowKit Go.Proofs.YtchmaojmknfbpaaW.PrintWords Go.Proofs.YtchmaojmknfbpaaW.PrintLast Go.Proofs.YtchmaojmknfbpaaW.PrintMore Go.Proofs.Ytchmaojmknfbpaa.Base

/-- n places numbered from a on. -/
def marked (a : Int) (n : Nat) : List Int := (List.range n).map fun (j : Nat) => (a + (j : Int)) % 256
theorem marked_length (a : Int) (n : Nat) : (marked a n).length = n := by simp [marked]
theorem marked_at (a : Int) (n j : Nat) (h : j < n) : (marked a n)[j]? = some ((a + (j : Int)) % 256) := by
  simp [marked, List.getElem?_map, List.getElem?_range h]
theorem markByteS_l0 (a : Int) (n : Nat) (h0 : 0 ≤ a) (h1 : a + n ≤ 4611686018427387904) : ∀ (d i : Nat) (x : List Int), i + d = n → x.length = n → (∀ j, j < i → x[j]? = (marked a n)[j]?) → Ev (fun k => laws_markByteS.l0 k x (a + (i : Int)) (i : Int)) (a + (n : Int), marked a n) := by
  intro d
  induction d with
  | zero =>
    intro i x hi hx hj
    refine ev_step (fun k => laws_markByteS.l0.eq_2 _ _ _ _) (ev_neg (by omega) ?_)
    have e : x = marked a n := fill_all (by rw [marked_length]; exact hx) (fun j h => hj j (by rw [marked_length] at h; omega))
    rw [e, show i = n by omega]
    exact ev_now rfl
  | succ d ih =>
    intro i x hi hx hj
    refine ev_step (fun k => laws_markByteS.l0.eq_2 _ _ _ _) (ev_pos (by omega) (ev_pos (by omega) ?_))
    rw [w64s (by omega), w64 (n := a + (i : Int) + 1) (by omega) (by omega), Int.toNat_natCast, show a + (i : Int) + 1 = a + ((i + 1 : Nat) : Int) by omega]
    refine ih (i + 1) _ (by omega) (by rw [List.length_set]; exact hx) ?_
    intro j hj'
    rw [List.getElem?_set]
    by_cases e : i = j
    · subst e
      rw [if_pos rfl, if_pos (by omega), marked_at a n i (by omega)]
    · rw [if_neg e]; exact hj j (by omega)
theorem markByteS_ev (l : List Int) (a : Int) (h0 : 0 ≤ a) (h1 : a + l.length ≤ 4611686018427387904) : Ev (fun k => laws_markByteS.f k l a) (a + (l.length : Int), marked a l.length) := by
  have h := markByteS_l0 a l.length h0 h1 l.length 0 l (by omega) rfl (fun j h => by omega)
  rw [show a + ((0 : Nat) : Int) = a by omega] at h
  exact h
theorem heldByteS_l0 (a : Int) (n : Nat) (h0 : 0 ≤ a) (h1 : a + n ≤ 4611686018427387904) : ∀ (d i : Nat), i + d = n → Ev (fun k => laws_heldByteS.l0 k (marked a n) (a + (i : Int)) (i : Int)) (a + (n : Int)) := by
  intro d
  induction d with
  | zero =>
    intro i hi
    refine ev_step (fun k => laws_heldByteS.l0.eq_2 _ _ _ _) (ev_neg (by rw [marked_length]; omega) ?_)
    rw [show i = n by omega]
    exact ev_now rfl
  | succ d ih =>
    intro i hi
    refine ev_step (fun k => laws_heldByteS.l0.eq_2 _ _ _ _) (ev_pos (by rw [marked_length]; omega) (ev_pos (by omega) (ev_pos ?_ ?_)))
    · unfold rd
      rw [List.getD_eq_getElem?_getD, Int.toNat_natCast, marked_at a n i (by omega)]
      rfl
    · rw [w64s (by omega), w64 (n := a + (i : Int) + 1) (by omega) (by omega), show a + (i : Int) + 1 = a + ((i + 1 : Nat) : Int) by omega]
      exact ih (i + 1) (by omega)
theorem heldByteS_ev (n : Nat) (a : Int) (h0 : 0 ≤ a) (h1 : a + n ≤ 4611686018427387904) : Ev (fun k => laws_heldByteS.f k (marked a n) a) (a + (n : Int)) := by
  have h := heldByteS_l0 a n h0 h1 n 0 (by omega)
  rw [show a + ((0 : Nat) : Int) = a by omega] at h
  exact h
end Go.Proofs.Ytchmaojmknfbpaa.S

/- Words behind one another, each with its length ahead: what the program's packed and the reference's l1Pack come to. -/
set_option linter.unusedVariables false
namespace Go.Proofs.Ytchmaojmknfbpaa.S
open Go.RowKit Go.Proofs.YtchmaojmknfbpaaW.PrintWords Go.Proofs.YtchmaojmknfbpaaW.PrintLast Go.Proofs.YtchmaojmknfbpaaW.PrintMore Go.Proofs.Ytchmaojmknfbpaa.Base

/-- Words behind one another, each with its length ahead. -/
def packL : List (List Int) → List Int
  | [] => []
  | w :: ws => (((w.length : Int) % 256) :: w) ++ packL ws
theorem packL_cons_length (w : List Int) (ws : List (List Int)) : (packL (w :: ws)).length = 1 + w.length + (packL ws).length := by
  simp [packL]
  omega
theorem rdW (l : List (List Int)) (i : Nat) (h : i < l.length) : rd_L1 l (i : Int) = l[i] := by
  unfold rd_L1
  simp [List.getD_eq_getElem?_getD, List.getElem?_eq_getElem h]
/-- The words that are packed, and whether they are few and short. -/
def packedV (ws : List (List Int)) : List Int × Bool := if ws.length > 60 then ([], false) else if (∀ w ∈ ws, w.length ≤ 200) ∧ (packL ws).length ≤ 4000 then (packL ws, true) else ([], false)
theorem packed_l0 (ws : List (List Int)) (hw : ws.length ≤ 60) (hs : ∀ w ∈ ws, w.length ≤ 9223372036854771000) : ∀ (d i : Nat) (y : List Int), i + d = ws.length → y.length ≤ 4000 → Ev (fun k => impl_packed.l0 k y ws (ws.length : Int) (i : Int)) (if (∀ w ∈ ws.drop i, w.length ≤ 200) ∧ y.length + (packL (ws.drop i)).length ≤ 4000 then (y ++ packL (ws.drop i), true) else ([], false)) := by
  intro d
  induction d with
  | zero =>
    intro i y hi hl
    rw [List.drop_of_length_le (by omega)]
    rw [if_pos ⟨fun w hw => (by cases hw), (by simpa [packL] using hl)⟩]
    exact ev_step (fun k => impl_packed.l0.eq_2 _ _ _ _ _) (ev_neg (by omega) (ev_now (by simp [packL])))
  | succ d ih =>
    intro i y hi hl
    rw [List.drop_eq_getElem_cons (by omega)]
    have hsi := hs ws[i] (List.getElem_mem _)
    refine ev_step (fun k => impl_packed.l0.eq_2 _ _ _ _ _) (ev_pos (by omega) (ev_pos (by omega) (ev_pos (by omega) ?_)))
    rw [rdW ws i (by omega), packL_cons_length]
    by_cases c : ws[i].length > 200
    · rw [if_neg (fun h => by have := h.1 ws[i] List.mem_cons_self; omega)]
      exact ev_pos (by omega) (ev_now rfl)
    · refine ev_neg (by omega) ?_
      rw [w64 (n := (y.length : Int) + 1) (by omega) (by omega), w64 (n := (y.length : Int) + 1 + (ws[i].length : Int)) (by omega) (by omega)]
      by_cases e : (y.length : Int) + 1 + (ws[i].length : Int) > 4000
      · rw [if_neg (fun h => by omega)]
        exact ev_pos e (ev_now rfl)
      · refine ev_neg e (ev_pos (by omega) (ev_bind (ev_now rfl) (ev_pos (by simp; omega) ?_)))
        rw [w64s (by omega)]
        refine ev_eq (ih (i + 1) _ (by omega) (by simp; omega)) ?_
        have hq : ((∀ w ∈ ws[i] :: ws.drop (i + 1), w.length ≤ 200) ∧ y.length + (1 + ws[i].length + (packL (ws.drop (i + 1))).length) ≤ 4000) ↔ ((∀ w ∈ ws.drop (i + 1), w.length ≤ 200) ∧ (y ++ [(ws[i].length : Int) % 256] ++ ws[i]).length + (packL (ws.drop (i + 1))).length ≤ 4000) := by
          have hlen : (y ++ [(ws[i].length : Int) % 256] ++ ws[i]).length = y.length + 1 + ws[i].length := by simp; omega
          rw [hlen]
          constructor
          · rintro ⟨h1, h2⟩
            exact ⟨fun w hw => h1 w (List.mem_cons_of_mem _ hw), by omega⟩
          · rintro ⟨h1, h2⟩
            refine ⟨fun w hw => ?_, by omega⟩
            rcases List.mem_cons.1 hw with rfl | hw
            · omega
            · exact h1 w hw
        by_cases g : (∀ w ∈ ws[i] :: ws.drop (i + 1), w.length ≤ 200) ∧ y.length + (1 + ws[i].length + (packL (ws.drop (i + 1))).length) ≤ 4000
        · rw [if_pos g, if_pos (hq.1 g)]
          simp [packL]
        · rw [if_neg g, if_neg (fun h => g (hq.2 h))]
theorem packed_ev (ws : List (List Int)) (hs : ∀ w ∈ ws, w.length ≤ 9223372036854771000) : Ev (fun k => impl_packed.f k ws) (packedV ws) := by
  unfold impl_packed.f packedV
  by_cases c : ws.length > 60
  · rw [if_pos c]; exact ev_pos (by omega) (ev_now rfl)
  · rw [if_neg c]
    have h := packed_l0 ws (by omega) hs ws.length 0 [] (by omega) (by simp)
    simp only [List.drop_zero, List.length_nil, Nat.zero_add, List.nil_append] at h
    exact ev_neg (by omega) h
end Go.Proofs.Ytchmaojmknfbpaa.S

/- Words that are unpacked: what the program's and the reference's come to; what is unpacked is packed so again. For all bytes that fit. -/
set_option linter.unusedVariables false
namespace Go.Proofs.Ytchmaojmknfbpaa.S
open Go.RowKit Go.Proofs.YtchmaojmknfbpaaW.PrintWords Go.Proofs.YtchmaojmknfbpaaW.PrintLast Go.Proofs.YtchmaojmknfbpaaW.PrintMore Go.Proofs.Ytchmaojmknfbpaa.Base

def unpL (n : Nat) : Nat → List Int → Int → List (List Int) → Int × Int × List (List Int)
  | 0, _, _, _ => (0, 0, [])
  | _ + 1, [], _, ws => (0, 0, ws)
  | f + 1, c :: d, p, ws => if ws.length = 60 then (2, p, []) else if c > 200 then (3, p, []) else if c > (d.length : Int) then (5, (n : Int), []) else unpL n f (d.drop c.toNat) (p + 1 + c) (ws ++ [d.take c.toNat])
theorem cut_eq (x : List Int) (p c : Nat) (d : List Int) (y : Int) (h : x.drop p = y :: d) : (x.take (p + 1 + c)).drop (p + 1) = d.take c ∧ x.drop (p + 1 + c) = d.drop c := by
  have h1 : x.drop (p + 1) = d := by rw [← List.drop_drop, h]; rfl
  refine ⟨?_, by rw [← List.drop_drop, h1]⟩
  rw [List.drop_take, show p + 1 + c - (p + 1) = c by omega, h1]
theorem unp_fact (x : List Int) (hx : Byt x) (hl : x.length ≤ 4000) (p : Nat) (d : List Int) (c : Int) (h : x.drop p = c :: d) : p < x.length ∧ rd x (p : Int) = c ∧ 0 ≤ c ∧ c ≤ 255 ∧ d.length = x.length - (p + 1) := by
  have hp : p < x.length := by
    rcases Nat.lt_or_ge p x.length with g | g
    · exact g
    · rw [List.drop_of_length_le g] at h
      cases h
  have h2 := h
  rw [List.drop_eq_getElem_cons hp] at h2
  injection h2 with h3 h4
  have hb := hx x[p] (List.getElem_mem _)
  refine ⟨hp, by rw [rd_nat x p hp, h3], by omega, by omega, ?_⟩
  rw [← h4, List.length_drop]
theorem impl_unp_l0 (x : List Int) (hx : Byt x) (hl : x.length ≤ 4000) : ∀ (f p : Nat) (ws : List (List Int)), p ≤ x.length → x.length - p < f → ws.length ≤ 60 → Ev (fun k => impl_UnpackWords.l0 k x ws (p : Int)) (unpL x.length f (x.drop p) (p : Int) ws) := by
  intro f
  induction f with
  | zero => intro p ws h1 h2; omega
  | succ f ih =>
    intro p ws h1 h2 h3
    cases e : x.drop p with
    | nil =>
      have : x.length ≤ p := by
        have := congrArg List.length e
        rw [List.length_drop] at this
        simp at this
        omega
      exact ev_step (fun k => impl_UnpackWords.l0.eq_2 _ _ _ _) (ev_neg (by omega) (ev_now rfl))
    | cons c d =>
      obtain ⟨hp, hr, hc0, hc1, hd⟩ := unp_fact x hx hl p d c e
      refine ev_step (fun k => impl_UnpackWords.l0.eq_2 _ _ _ _) (ev_pos (by omega) (ev_pos (by omega) ?_))
      rw [hr, w64 (n := c) (by omega) (by omega), w64s (by omega), w64 (n := ((p + 1 : Nat) : Int) + c) (by omega) (by omega)]
      unfold unpL
      by_cases g1 : ws.length = 60
      · rw [if_pos g1]; exact ev_pos (by omega) (ev_now rfl)
      rw [if_neg g1]; refine ev_neg (by omega) ?_
      by_cases g2 : c > 200
      · rw [if_pos g2]; exact ev_pos g2 (ev_now rfl)
      rw [if_neg g2]; refine ev_neg g2 ?_
      by_cases g3 : c > (d.length : Int)
      · rw [if_pos g3]; exact ev_pos (by omega) (ev_now rfl)
      rw [if_neg g3]
      refine ev_neg (by omega) (ev_pos (by omega) (ev_pos (by omega) (ev_pos (by omega) ?_)))
      obtain ⟨cn, rfl⟩ := Int.eq_ofNat_of_zero_le hc0
      rw [show (((p + 1 : Nat) : Int) + (cn : Int)) = ((p + 1 + cn : Nat) : Int) by omega, Int.toNat_natCast, Int.toNat_natCast, (cut_eq x p cn d _ e).1, Int.toNat_natCast]
      refine ev_bind (ev_now (show bytes_Clone.f (d.take cn) = some (d.take cn) from by unfold bytes_Clone.f; rw [if_pos (by rw [List.length_take]; omega)])) (ev_pos (by omega) ?_)
      have h := ih (p + 1 + cn) (ws ++ [d.take cn]) (by omega) (by omega) (by simp; omega)
      rw [(cut_eq x p cn d _ e).2] at h
      rw [show (p : Int) + 1 + (cn : Int) = ((p + 1 + cn : Nat) : Int) by omega]
      exact h
def unpackV (x : List Int) : Int × Int × List (List Int) := if x.length > 4000 then (2, 0, []) else unpL x.length (x.length + 1) x 0 []
theorem impl_UnpackWords_ev {x : List Int} (hx : Byt x) : Ev (fun k => impl_UnpackWords.f k x) (unpackV x) := by
  unfold impl_UnpackWords.f unpackV
  by_cases h : x.length > 4000
  · rw [if_pos h]; exact ev_pos (by omega) (ev_now rfl)
  · rw [if_neg h]; exact ev_neg (by omega) (impl_unp_l0 x hx (by omega) (x.length + 1) 0 [] (by omega) (by omega) (by simp))
theorem packL_append : ∀ (a b : List (List Int)), packL (a ++ b) = packL a ++ packL b
  | [], b => rfl
  | w :: a, b => by simp [packL, packL_append a b]
/-- What is unpacked: few words, short ones, of bytes; no code: the bytes are these words'; a code: no words. -/
theorem unpL_ok (n : Nat) : ∀ (f : Nat) (d : List Int) (p : Int) (ws : List (List Int)), Byt d → d.length < f → (∀ w ∈ ws, Byt w ∧ w.length ≤ 200) → ws.length ≤ 60 → 0 ≤ p → p + d.length = n →
    (∀ w ∈ (unpL n f d p ws).2.2, Byt w ∧ w.length ≤ 200) ∧ (unpL n f d p ws).2.2.length ≤ 60 ∧ ((unpL n f d p ws).1 = 0 → packL (unpL n f d p ws).2.2 = packL ws ++ d) ∧ ((unpL n f d p ws).1 ≠ 0 → (unpL n f d p ws).2.2 = [] ∧ (unpL n f d p ws).2.1 ≤ n) ∧ ((unpL n f d p ws).1 = 0 → (unpL n f d p ws).2.1 = 0) := by
  intro f
  induction f with
  | zero => intro d p ws _ h; omega
  | succ f ih =>
    intro d p ws hd hf hw hl hp hn
    cases d with
    | nil => exact ⟨hw, hl, fun _ => by show packL ws = packL ws ++ []; rw [List.append_nil], fun h => absurd rfl h, fun _ => rfl⟩
    | cons c d =>
      have hc := hd c List.mem_cons_self
      have hd2 : Byt d := fun x hx => hd x (List.mem_cons_of_mem _ hx)
      simp only [List.length_cons] at hf hn
      unfold unpL
      by_cases g1 : ws.length = 60
      · rw [if_pos g1]
        exact ⟨fun w h => (by cases h), by simp, fun h => absurd (show (2 : Int) = 0 from h) (by decide), fun _ => ⟨rfl, by show p ≤ (n : Int); omega⟩, fun h => absurd (show (2 : Int) = 0 from h) (by decide)⟩
      rw [if_neg g1]
      by_cases g2 : c > 200
      · rw [if_pos g2]
        exact ⟨fun w h => (by cases h), by simp, fun h => absurd (show (3 : Int) = 0 from h) (by decide), fun _ => ⟨rfl, by show p ≤ (n : Int); omega⟩, fun h => absurd (show (3 : Int) = 0 from h) (by decide)⟩
      rw [if_neg g2]
      by_cases g3 : c > (d.length : Int)
      · rw [if_pos g3]
        exact ⟨fun w h => (by cases h), by simp, fun h => absurd (show (5 : Int) = 0 from h) (by decide), fun _ => ⟨rfl, by show (n : Int) ≤ (n : Int); omega⟩, fun h => absurd (show (5 : Int) = 0 from h) (by decide)⟩
      rw [if_neg g3]
      obtain ⟨cn, rfl⟩ := Int.eq_ofNat_of_zero_le hc.1
      rw [Int.toNat_natCast]
      have ht : (d.take cn).length = cn := by rw [List.length_take]; omega
      have := ih (d.drop cn) (p + 1 + (cn : Int)) (ws ++ [d.take cn]) (byt_drop hd2 cn) (by rw [List.length_drop]; omega) (fun w hw2 => by
        rcases List.mem_append.1 hw2 with h | h
        · exact hw w h
        · rw [List.mem_singleton.1 h]
          exact ⟨byt_take hd2 cn, by omega⟩) (by simp; omega) (by omega) (by rw [List.length_drop]; omega)
      obtain ⟨a1, a2, a3, a4, a5⟩ := this
      refine ⟨a1, a2, fun h => ?_, a4, a5⟩
      rw [a3 h, packL_append]
      have e1 : packL [d.take cn] = ((cn : Int)) :: d.take cn := by
        show ((((d.take cn).length : Int) % 256) :: d.take cn) ++ [] = _
        rw [ht, List.append_nil, Int.emod_eq_of_lt (by omega) (by omega)]
      rw [e1, List.append_assoc, List.cons_append, List.take_append_drop]
theorem unpackV_ok {x : List Int} (hx : Byt x) : (∀ w ∈ (unpackV x).2.2, Byt w ∧ w.length ≤ 200) ∧ (unpackV x).2.2.length ≤ 60 ∧ ((unpackV x).1 = 0 → packL (unpackV x).2.2 = x) ∧ ((unpackV x).1 ≠ 0 → (unpackV x).2.2 = [] ∧ (unpackV x).2.1 ≤ x.length) ∧ ((unpackV x).1 = 0 → (unpackV x).2.1 = 0) := by
  unfold unpackV
  by_cases h : x.length > 4000
  · rw [if_pos h]
    exact ⟨fun w h => (by cases h), by simp, fun h => absurd (show (2 : Int) = 0 from h) (by decide), fun _ => ⟨rfl, by show (0 : Int) ≤ _; omega⟩, fun h => absurd (show (2 : Int) = 0 from h) (by decide)⟩
  · rw [if_neg h]
    have := unpL_ok x.length (x.length + 1) x 0 [] hx (by omega) (fun w h => (by cases h)) (by simp) (by omega) (by omega)
    exact this
end Go.Proofs.Ytchmaojmknfbpaa.S

/- Words behind one another, each with its length ahead: what the program's packed and the reference's l1Pack come to. -/
set_option linter.unusedVariables false
namespace Go.Proofs.Ytchmaojmknfbpaa.S
open Go.RowKit Go.Proofs.YtchmaojmknfbpaaW.PrintWords Go.Proofs.YtchmaojmknfbpaaW.PrintLast Go.Proofs.YtchmaojmknfbpaaW.PrintMore Go.Proofs.Ytchmaojmknfbpaa.Base

end Go.Proofs.Ytchmaojmknfbpaa.S

/- Words that are unpacked: what the program's and the reference's come to; what is unpacked is packed so again. For all bytes that fit. -/
set_option linter.unusedVariables false
namespace Go.Proofs.Ytchmaojmknfbpaa.S
open Go.RowKit Go.Proofs.YtchmaojmknfbpaaW.PrintWords Go.Proofs.YtchmaojmknfbpaaW.PrintLast Go.Proofs.YtchmaojmknfbpaaW.PrintMore Go.Proofs.Ytchmaojmknfbpaa.Base

theorem spec_unp_l0 (x : List Int) (hx : Byt x) (hl : x.length ≤ 4000) : ∀ (f p : Nat) (ws : List (List Int)), p ≤ x.length → x.length - p < f → ws.length ≤ 60 → Ev (fun k => spec_UnpackWords.l0 k x (p : Int) 0 0 ws) (unpL x.length f (x.drop p) (p : Int) ws) := by
  intro f
  induction f with
  | zero => intro p ws h1 h2; omega
  | succ f ih =>
    intro p ws h1 h2 h3
    cases e : x.drop p with
    | nil =>
      have : x.length ≤ p := by
        have := congrArg List.length e
        rw [List.length_drop] at this
        simp at this
        omega
      exact ev_step (fun k => spec_UnpackWords.l0.eq_2 _ _ _ _ _ _) (ev_neg (by omega) (ev_now rfl))
    | cons c d =>
      obtain ⟨hp, hr, hc0, hc1, hd⟩ := unp_fact x hx hl p d c e
      refine ev_step (fun k => spec_UnpackWords.l0.eq_2 _ _ _ _ _ _) (ev_pos (by omega) (ev_pos (by omega) ?_))
      rw [hr, w64 (n := c) (by omega) (by omega), w64s (by omega), w64 (n := ((p + 1 : Nat) : Int) + c) (by omega) (by omega)]
      unfold unpL
      by_cases g1 : ws.length = 60
      · rw [if_pos g1]; exact ev_pos (by omega) (ev_now rfl)
      rw [if_neg g1]; refine ev_neg (by omega) ?_
      by_cases g2 : c > 200
      · rw [if_pos g2]; exact ev_pos g2 (ev_now rfl)
      rw [if_neg g2]; refine ev_neg g2 ?_
      by_cases g3 : c > (d.length : Int)
      · rw [if_pos g3]; exact ev_pos (by omega) (ev_now rfl)
      rw [if_neg g3]
      refine ev_neg (by omega) (ev_bind (ev_now rfl) (ev_pos (by omega) (ev_pos (by omega) (ev_pos (by omega) ?_))))
      obtain ⟨cn, rfl⟩ := Int.eq_ofNat_of_zero_le hc0
      rw [show (((p + 1 : Nat) : Int) + (cn : Int)) = ((p + 1 + cn : Nat) : Int) by omega, Int.toNat_natCast, Int.toNat_natCast, (cut_eq x p cn d _ e).1, Int.toNat_natCast]
      refine ev_pos (by rw [List.length_take]; simp; omega) (ev_pos (by omega) ?_)
      have h := ih (p + 1 + cn) (ws ++ [d.take cn]) (by omega) (by omega) (by simp; omega)
      rw [(cut_eq x p cn d _ e).2] at h
      rw [show (p : Int) + 1 + (cn : Int) = ((p + 1 + cn : Nat) : Int) by omega, List.nil_append]
      exact h
theorem spec_UnpackWords_ev {x : List Int} (hx : Byt x) : Ev (fun k => spec_UnpackWords.f k x) (unpackV x) := by
  unfold spec_UnpackWords.f unpackV
  by_cases h : x.length > 4000
  · rw [if_pos h]; exact ev_pos (by omega) (ev_now rfl)
  · rw [if_neg h]; exact ev_neg (by omega) (spec_unp_l0 x hx (by omega) (x.length + 1) 0 [] (by omega) (by omega) (by simp))
end Go.Proofs.Ytchmaojmknfbpaa.S

/- How a tree is split, and on which side the other parts are: the program's splitAt and sides and the reference's l3Split and l3Sides agree for 1 to 16 leaves. -/
set_option linter.unusedVariables false
namespace Go.Proofs.Ytchmaojmknfbpaa.S
open Go.RowKit Go.Proofs.YtchmaojmknfbpaaW.PrintWords Go.Proofs.YtchmaojmknfbpaaW.PrintLast Go.Proofs.YtchmaojmknfbpaaW.PrintMore Go.Proofs.Ytchmaojmknfbpaa.Base

def splitV (n : Int) : Int := if n ≤ 2 then 1 else if n ≤ 4 then 2 else if n ≤ 8 then 4 else 8
theorem splitV_range {n : Int} (h : 2 ≤ n) (h1 : n ≤ 16) : 1 ≤ splitV n ∧ splitV n < n ∧ splitV n ≤ 8 ∧ n - splitV n ≤ 8 := by
  unfold splitV
  repeat' split
  all_goals omega
theorem wd (x : Int) (h0 : 0 ≤ x) (h1 : x ≤ 16) : wrap64 (2 * x) = 2 * x := w64 (by omega) (by omega)
theorem wd' (x : Int) (h0 : 0 ≤ x) (h1 : x ≤ 16) : wrap64 (x * 2) = 2 * x := by rw [w64 (by omega) (by omega)]; omega
theorem impl_split_ev {n : Int} (h : 2 ≤ n) (h1 : n ≤ 16) : Ev (fun k => impl_splitAt.f k n) (splitV n) := by
  unfold impl_splitAt.f splitV
  refine ev_step (fun k => impl_splitAt.l0.eq_2 _ _ _) ?_
  rw [wd 1 (by omega) (by omega), wd' 1 (by omega) (by omega)]
  by_cases c1 : n ≤ 2
  · rw [if_pos c1]; exact ev_neg (by omega) (ev_now rfl)
  rw [if_neg c1]; refine ev_pos (by omega) ?_
  refine ev_step (fun k => impl_splitAt.l0.eq_2 _ _ _) ?_
  rw [wd (2 * 1) (by omega) (by omega), wd' (2 * 1) (by omega) (by omega)]
  by_cases c2 : n ≤ 4
  · rw [if_pos c2]; exact ev_neg (by omega) (ev_now rfl)
  rw [if_neg c2]; refine ev_pos (by omega) ?_
  refine ev_step (fun k => impl_splitAt.l0.eq_2 _ _ _) ?_
  rw [wd (2 * (2 * 1)) (by omega) (by omega), wd' (2 * (2 * 1)) (by omega) (by omega)]
  by_cases c3 : n ≤ 8
  · rw [if_pos c3]; exact ev_neg (by omega) (ev_now rfl)
  rw [if_neg c3]; refine ev_pos (by omega) ?_
  refine ev_step (fun k => impl_splitAt.l0.eq_2 _ _ _) ?_
  rw [wd (2 * (2 * (2 * 1))) (by omega) (by omega)]
  exact ev_neg (by omega) (ev_now rfl)
end Go.Proofs.Ytchmaojmknfbpaa.S

/- Is a number in its bounds: the program's and the reference's answer. -/
set_option linter.unusedVariables false
namespace Go.Proofs.Ytchmaojmknfbpaa.S
open Go.RowKit Go.Proofs.YtchmaojmknfbpaaW.PrintWords Go.Proofs.YtchmaojmknfbpaaW.PrintLast Go.Proofs.YtchmaojmknfbpaaW.PrintMore Go.Proofs.Ytchmaojmknfbpaa.Base

theorem in_eq (a b c : Int) : impl_in.f a b c = some (decide (b ≤ a ∧ a ≤ c)) := by
  unfold impl_in.f
  by_cases h : b ≤ a <;> simp [h]
end Go.Proofs.Ytchmaojmknfbpaa.S

/- An element of rows of rows. -/
set_option linter.unusedVariables false
namespace Go.Proofs.Ytchmaojmknfbpaa.S
open Go.RowKit Go.Proofs.YtchmaojmknfbpaaW.PrintWords Go.Proofs.YtchmaojmknfbpaaW.PrintLast Go.Proofs.YtchmaojmknfbpaaW.PrintMore Go.Proofs.Ytchmaojmknfbpaa.Base

theorem rdLL (ls : List (List Int)) (i : Nat) (h : i < ls.length) : rd_L1 ls (i : Int) = ls[i] := by
  unfold rd_L1
  simp [List.getD_eq_getElem?_getD, List.getElem?_eq_getElem h]
end Go.Proofs.Ytchmaojmknfbpaa.S

/- Proofs: when one has its form, and what it climbs to: what the program's and the reference's come to. For all that fit. -/
set_option linter.unusedVariables false
namespace Go.Proofs.Ytchmaojmknfbpaa.S
open Go.RowKit Go.Proofs.YtchmaojmknfbpaaW.PrintWords Go.Proofs.YtchmaojmknfbpaaW.PrintLast Go.Proofs.YtchmaojmknfbpaaW.PrintMore Go.Proofs.Ytchmaojmknfbpaa.Base

/-- A place in a tree. -/
def Placed (n p : Int) : Prop := (1 ≤ n ∧ n ≤ 16) ∧ (0 ≤ p ∧ p < n)
instance (n p : Int) : Decidable (Placed n p) := by unfold Placed; infer_instance
theorem impl_pathLength_ev (n p : Int) (L : List Bool) (h : Placed n p → Ev (fun k => impl_sides.f k n p) L) : Ev (fun k => impl_PathLength.f k n p) (if Placed n p then (0, (L.length : Int)) else (3, 0)) := by
  unfold impl_PathLength.f
  refine ev_bind (ev_now (in_eq _ _ _)) ?_
  by_cases h1 : 1 ≤ n ∧ n ≤ 16
  · refine ev_pos (decide_eq_true h1) ?_
    rw [w64 (n := n - 1) (by omega) (by omega)]
    refine ev_bind (ev_now (in_eq _ _ _)) ?_
    by_cases h2 : 0 ≤ p ∧ p ≤ n - 1
    · have hp : Placed n p := ⟨h1, h2.1, by omega⟩
      rw [if_pos hp]
      exact ev_pos (decide_eq_true h2) (ev_bind (h hp) (ev_now rfl))
    · rw [if_neg (fun hp : Placed n p => h2 ⟨hp.2.1, by have := hp.2.2; omega⟩)]
      exact ev_neg (fun g => h2 (of_decide_eq_true g)) (ev_now rfl)
  · rw [if_neg (fun hp : Placed n p => h1 hp.1)]
    exact ev_neg (fun g => h1 (of_decide_eq_true g)) (ev_now rfl)
/-- All of 32 bytes. -/
def All32 (ls : List (List Int)) : Prop := ∀ l ∈ ls, l.length = 32
instance (ls : List (List Int)) : Decidable (All32 ls) := by unfold All32; infer_instance
theorem areDigests_eq (ls : List (List Int)) : impl_areDigests.f ls = some (decide (All32 ls)) := by
  unfold impl_areDigests.f
  congr 1
  rw [Bool.eq_iff_iff, List.all_eq_true, decide_eq_true_iff]
  unfold All32
  constructor
  · intro h l hl
    have := beq_iff_eq.1 (h l hl)
    omega
  · intro h l hl
    exact beq_iff_eq.2 (by have := h l hl; omega)
/-- A proof of the right form: its place, its length, its parts. -/
def Right (n p : Int) (L : List Bool) (ls : List (List Int)) : Prop := Placed n p ∧ ls.length = L.length ∧ All32 ls
instance (n p : Int) (L : List Bool) (ls : List (List Int)) : Decidable (Right n p L ls) := by unfold Right; infer_instance
theorem impl_isProof_ev (n p : Int) (L : List Bool) (h : Placed n p → Ev (fun k => impl_sides.f k n p) L) (ls : List (List Int)) : Ev (fun k => impl_isProof.f k p n ls) (decide (Right n p L ls)) := by
  unfold impl_isProof.f
  refine ev_bind (impl_pathLength_ev n p L h) ?_
  by_cases hp : Placed n p
  · rw [if_pos hp]
    refine ev_pos rfl ?_
    by_cases hl : ls.length = L.length
    · refine ev_pos (show (L.length : Int) = (ls.length : Int) by omega) (ev_bind (ev_now (areDigests_eq ls)) (ev_now ?_))
      congr 1
      rw [Bool.eq_iff_iff, decide_eq_true_iff, decide_eq_true_iff]
      exact ⟨fun g => ⟨hp, hl, g⟩, fun g => g.2.2⟩
    · exact ev_neg (show ¬ (L.length : Int) = (ls.length : Int) by omega) (ev_now (by rw [decide_eq_false (fun g : Right n p L ls => hl g.2.1)]))
  · rw [if_neg hp]
    exact ev_neg (show ¬ (3 : Int) = 0 by decide) (ev_now (by rw [decide_eq_false (fun g : Right n p L ls => hp g.1)]))
end Go.Proofs.Ytchmaojmknfbpaa.S

/- How a tree is split, and on which side the other parts are: the program's splitAt and sides and the reference's l3Split and l3Sides agree for 1 to 16 leaves. -/
set_option linter.unusedVariables false
namespace Go.Proofs.Ytchmaojmknfbpaa.S
open Go.RowKit Go.Proofs.YtchmaojmknfbpaaW.PrintWords Go.Proofs.YtchmaojmknfbpaaW.PrintLast Go.Proofs.YtchmaojmknfbpaaW.PrintMore Go.Proofs.Ytchmaojmknfbpaa.Base

theorem spec_split_ev {n : Int} (h : 2 ≤ n) (h1 : n ≤ 16) : Ev (fun k => spec_l3Split.f k n) (splitV n) := by
  unfold spec_l3Split.f splitV
  refine ev_step (fun k => spec_l3Split.l0.eq_2 _ _ _) ?_
  rw [wd 1 (by omega) (by omega)]
  by_cases c1 : n ≤ 2
  · rw [if_pos c1]; exact ev_neg (by omega) (ev_now rfl)
  rw [if_neg c1]; refine ev_pos (by omega) ?_
  refine ev_step (fun k => spec_l3Split.l0.eq_2 _ _ _) ?_
  rw [wd (2 * 1) (by omega) (by omega)]
  by_cases c2 : n ≤ 4
  · rw [if_pos c2]; exact ev_neg (by omega) (ev_now rfl)
  rw [if_neg c2]; refine ev_pos (by omega) ?_
  refine ev_step (fun k => spec_l3Split.l0.eq_2 _ _ _) ?_
  rw [wd (2 * (2 * 1)) (by omega) (by omega)]
  by_cases c3 : n ≤ 8
  · rw [if_pos c3]; exact ev_neg (by omega) (ev_now rfl)
  rw [if_neg c3]; refine ev_pos (by omega) ?_
  refine ev_step (fun k => spec_l3Split.l0.eq_2 _ _ _) ?_
  rw [wd (2 * (2 * (2 * 1))) (by omega) (by omega)]
  exact ev_neg (by omega) (ev_now rfl)
/-- The sides of the way from leaf p up in a tree of n leaves: true: the other part is on the left. -/
theorem sides_ev : ∀ (m : Nat) (n p : Int), n ≤ m → 1 ≤ n → n ≤ 16 → 0 ≤ p → p < n → ∃ L : List Bool, (L.length : Int) < n ∧ Ev (fun k => impl_sides.f k n p) L ∧ Ev (fun k => spec_l3Sides.f k n p) (L.map not) := by
  intro m
  induction m with
  | zero => intro n p h h1; omega
  | succ m ih =>
    intro n p h h1 h2 hp hq
    by_cases e : n = 1
    · refine ⟨[], by simp; omega, ?_, ?_⟩
      · exact ev_step (fun k => impl_sides.f.eq_2 _ _ _) (ev_pos e (ev_now rfl))
      · exact ev_step (fun k => spec_l3Sides.f.eq_2 _ _ _) (ev_pos (by omega) (ev_now rfl))
    · have hr := splitV_range (n := n) (by omega) h2
      have hs := spec_split_ev (n := n) (by omega) h2
      have hi := impl_split_ev (n := n) (by omega) h2
      generalize splitV n = v at hr hs hi
      by_cases c : p < v
      · obtain ⟨L, l1, l2, l3⟩ := ih v p (by omega) (by omega) (by omega) hp c
        refine ⟨L ++ [false], by simp; omega, ?_, ?_⟩
        · refine ev_step (fun k => impl_sides.f.eq_2 _ _ _) (ev_neg e (ev_bind hi (ev_pos c (ev_bind l2 (ev_pos ?_ (ev_now rfl))))))
          omega
        · refine ev_step (fun k => spec_l3Sides.f.eq_2 _ _ _) (ev_neg (by omega) (ev_bind hs (ev_pos c (ev_bind l3 (ev_pos ?_ (ev_now (by simp)))))))
          rw [List.length_map]; omega
      · obtain ⟨L, l1, l2, l3⟩ := ih (n - v) (p - v) (by omega) (by omega) (by omega) (by omega) (by omega)
        have e1 : wrap64 (n - v) = n - v := w64 (by omega) (by omega)
        have e2 : wrap64 (p - v) = p - v := w64 (by omega) (by omega)
        refine ⟨L ++ [true], by simp; omega, ?_, ?_⟩
        · refine ev_step (fun k => impl_sides.f.eq_2 _ _ _) (ev_neg e (ev_bind hi (ev_neg c ?_)))
          rw [e1, e2]
          exact ev_bind l2 (ev_pos (by omega) (ev_now rfl))
        · refine ev_step (fun k => spec_l3Sides.f.eq_2 _ _ _) (ev_neg (by omega) (ev_bind hs (ev_neg c ?_)))
          rw [e1, e2]
          exact ev_bind l3 (ev_pos (by rw [List.length_map]; omega) (ev_now (by simp)))
end Go.Proofs.Ytchmaojmknfbpaa.S

/- Is a number in its bounds: the program's and the reference's answer. -/
set_option linter.unusedVariables false
namespace Go.Proofs.Ytchmaojmknfbpaa.S
open Go.RowKit Go.Proofs.YtchmaojmknfbpaaW.PrintWords Go.Proofs.YtchmaojmknfbpaaW.PrintLast Go.Proofs.YtchmaojmknfbpaaW.PrintMore Go.Proofs.Ytchmaojmknfbpaa.Base

theorem l1In_eq (a b c : Int) : spec_l1In.f a b c = some (decide (b ≤ a ∧ a ≤ c)) := by
  unfold spec_l1In.f
  by_cases h : b ≤ a <;> simp [h]
end Go.Proofs.Ytchmaojmknfbpaa.S

/- How many places are left behind a slice of bytes. -/
set_option linter.unusedVariables false
namespace Go.Proofs.Ytchmaojmknfbpaa.S
open Go.RowKit Go.Proofs.YtchmaojmknfbpaaW.PrintWords Go.Proofs.YtchmaojmknfbpaaW.PrintLast Go.Proofs.YtchmaojmknfbpaaW.PrintMore Go.Proofs.Ytchmaojmknfbpaa.Base

def szV (n : Nat) (a : Int) : Int := if a - n < 0 then -1 else a - n
end Go.Proofs.Ytchmaojmknfbpaa.S

/- What the laws' helpers on slices of byte slices come to: a copy, a comparison, a size. For all that fit memory. -/
set_option linter.unusedVariables false
namespace Go.Proofs.Ytchmaojmknfbpaa.S
open Go.RowKit Go.Proofs.YtchmaojmknfbpaaW.PrintWords Go.Proofs.YtchmaojmknfbpaaW.PrintLast Go.Proofs.YtchmaojmknfbpaaW.PrintMore Go.Proofs.Ytchmaojmknfbpaa.Base

theorem eqByteSS_l0 (ls : List (List Int)) (hl : ls.length ≤ 11728124029610) (hi : ∀ l ∈ ls, l.length ≤ 281474976710656) : ∀ (d i : Nat), i + d = ls.length → Ev (fun k => laws_eqByteSS.l0 k ls ls (i : Int)) true := by
  intro d
  induction d with
  | zero =>
    intro i h
    exact ev_step (fun k => laws_eqByteSS.l0.eq_2 _ _ _ _) (ev_neg (by omega) (ev_now rfl))
  | succ d ih =>
    intro i h
    have hlt : i < ls.length := by omega
    refine ev_step (fun k => laws_eqByteSS.l0.eq_2 _ _ _ _) (ev_pos (by omega) (ev_pos (by omega) (ev_pos (by omega) ?_)))
    rw [rdLL ls i hlt]
    refine ev_bind (eqByteS_ev ls[i] (hi _ (List.getElem_mem _))) (ev_pos rfl ?_)
    rw [w64s (by omega)]
    exact ih (i + 1) (by omega)
theorem eqByteSS_ev (ls : List (List Int)) (hl : ls.length ≤ 11728124029610) (hi : ∀ l ∈ ls, l.length ≤ 281474976710656) : Ev (fun k => laws_eqByteSS.f k ls ls) true := by
  unfold laws_eqByteSS.f
  exact ev_pos rfl (eqByteSS_l0 ls hl hi ls.length 0 (by omega))
end Go.Proofs.Ytchmaojmknfbpaa.S

/- Proofs: when one has its form, and what it climbs to: what the program's and the reference's come to. For all that fit. -/
set_option linter.unusedVariables false
namespace Go.Proofs.Ytchmaojmknfbpaa.S
open Go.RowKit Go.Proofs.YtchmaojmknfbpaaW.PrintWords Go.Proofs.YtchmaojmknfbpaaW.PrintLast Go.Proofs.YtchmaojmknfbpaaW.PrintMore Go.Proofs.Ytchmaojmknfbpaa.Base

/-- The sides, by the reference's own words; of a place that is none, none. -/
theorem sides_ex (n p : Int) (h : Placed n p) : ∃ L : List Bool, (L.length : Int) < 16 ∧ Ev (fun k => impl_sides.f k n p) L ∧ Ev (fun k => spec_l3Sides.f k n p) (L.map not) := by
  obtain ⟨L, h1, h2, h3⟩ := sides_ev 16 n p h.1.2 h.1.1 h.1.2 h.2.1 h.2.2
  have := h.1.2
  exact ⟨L, by omega, h2, h3⟩
theorem spec_pathLength_ev (n p : Int) (L : List Bool) (h : Placed n p → Ev (fun k => spec_l3Sides.f k n p) (L.map not)) : Ev (fun k => spec_PathLength.f k n p) (if Placed n p then (0, (L.length : Int)) else (3, 0)) := by
  unfold spec_PathLength.f
  refine ev_bind (ev_now (l1In_eq _ _ _)) ?_
  by_cases h1 : 1 ≤ n ∧ n ≤ 16
  · refine ev_pos (decide_eq_true h1) ?_
    rw [w64 (n := n - 1) (by omega) (by omega)]
    refine ev_bind (ev_now (l1In_eq _ _ _)) ?_
    by_cases h2 : 0 ≤ p ∧ p ≤ n - 1
    · have hp : Placed n p := ⟨h1, h2.1, by omega⟩
      rw [if_pos hp]
      exact ev_pos (decide_eq_true h2) (ev_bind (h hp) (ev_now (by rw [List.length_map])))
    · rw [if_neg (fun hp : Placed n p => h2 ⟨hp.2.1, by have := hp.2.2; omega⟩)]
      exact ev_neg (fun g => h2 (of_decide_eq_true g)) (ev_now rfl)
  · rw [if_neg (fun hp : Placed n p => h1 hp.1)]
    exact ev_neg (fun g => h1 (of_decide_eq_true g)) (ev_now rfl)
theorem l3Right_l0 (ls : List (List Int)) (hl : ls.length ≤ 11728124029610) (a b : Int) : ∀ (d i : Nat), i + d = ls.length → Ev (fun k => spec_l3Right.l0 k (i : Int) a b ls) (decide (All32 (ls.drop i))) := by
  intro d
  induction d with
  | zero =>
    intro i h
    rw [List.drop_of_length_le (by omega), decide_eq_true (show All32 [] from fun l hl => by cases hl)]
    exact ev_step (fun k => spec_l3Right.l0.eq_2 _ _ _ _ _) (ev_neg (by omega) (ev_now rfl))
  | succ d ih =>
    intro i h
    have hlt : i < ls.length := by omega
    refine ev_step (fun k => spec_l3Right.l0.eq_2 _ _ _ _ _) (ev_pos (by omega) (ev_pos (by omega) ?_))
    rw [rdLL ls i hlt]
    by_cases g : ls[i].length = 32
    · refine ev_pos (by omega) ?_
      rw [w64s (by omega)]
      refine ev_eq (ih (i + 1) (by omega)) ?_
      rw [Bool.eq_iff_iff, decide_eq_true_iff, decide_eq_true_iff, List.drop_eq_getElem_cons hlt]
      unfold All32
      constructor
      · intro hh l hl
        rcases List.mem_cons.1 hl with rfl | hl
        · exact g
        · exact hh l hl
      · intro hh l hl
        exact hh l (List.mem_cons_of_mem _ hl)
    · refine ev_neg (by omega) (ev_now ?_)
      rw [decide_eq_false]
      rw [List.drop_eq_getElem_cons hlt]
      exact fun hh => g (hh _ List.mem_cons_self)
theorem spec_right_ev (n p : Int) (L : List Bool) (h : Placed n p → Ev (fun k => spec_l3Sides.f k n p) (L.map not)) (ls : List (List Int)) (hl : ls.length ≤ 11728124029610) : Ev (fun k => spec_l3Right.f k p n ls) (decide (Right n p L ls)) := by
  unfold spec_l3Right.f
  refine ev_bind (spec_pathLength_ev n p L h) ?_
  by_cases hp : Placed n p
  · rw [if_pos hp]
    refine ev_pos rfl (ev_step (fun k => spec_l3Right.j0.eq_2 _ _ _ _ _) ?_)
    by_cases hl2 : ls.length = L.length
    · refine ev_neg (show ¬ ((ls.length : Int) != (L.length : Int)) = true by simp [hl2]) ?_
      refine ev_eq (l3Right_l0 ls hl p n ls.length 0 (by omega)) ?_
      rw [List.drop_zero, Bool.eq_iff_iff, decide_eq_true_iff, decide_eq_true_iff]
      exact ⟨fun g => ⟨hp, hl2, g⟩, fun g => g.2.2⟩
    · exact ev_pos (show ((ls.length : Int) != (L.length : Int)) = true from bne_iff_ne.2 (by omega)) (ev_now (by rw [decide_eq_false (fun g : Right n p L ls => hl2 g.2.1)]))
  · rw [if_neg hp]
    exact ev_neg (show ¬ (3 : Int) = 0 by decide) (ev_step (fun k => spec_l3Right.j0.eq_2 _ _ _ _ _) (ev_pos rfl (ev_now (by rw [decide_eq_false (fun g : Right n p L ls => hp g.1)]))))
theorem sides_any (n p : Int) : ∃ L : List Bool, L.length ≤ 15 ∧ (Placed n p → Ev (fun k => impl_sides.f k n p) L) ∧ (Placed n p → Ev (fun k => spec_l3Sides.f k n p) (L.map not)) := by
  by_cases h : Placed n p
  · obtain ⟨L, h1, h2, h3⟩ := sides_ex n p h
    exact ⟨L, by omega, fun _ => h2, fun _ => h3⟩
  · exact ⟨[], by simp, fun g => absurd g h, fun g => absurd g h⟩
end Go.Proofs.Ytchmaojmknfbpaa.S

/- Words that are packed: what the program's PackWords and the reference's come to. For few words that fit. -/
set_option linter.unusedVariables false
namespace Go.Proofs.Ytchmaojmknfbpaa.S
open Go.RowKit Go.Proofs.YtchmaojmknfbpaaW.PrintWords Go.Proofs.YtchmaojmknfbpaaW.PrintLast Go.Proofs.YtchmaojmknfbpaaW.PrintMore Go.Proofs.Ytchmaojmknfbpaa.Base

def packWordsV (ws : List (List Int)) : Int × List Int := if ws.length > 60 then (2, []) else if (∀ w ∈ ws, w.length ≤ 200) ∧ (packL ws).length ≤ 4000 then (0, packL ws) else (2, [])
theorem impl_PackWords_ev {ws : List (List Int)} (hs : ∀ w ∈ ws, w.length ≤ 9223372036854771000) : Ev (fun k => impl_PackWords.f k ws) (packWordsV ws) := by
  unfold impl_PackWords.f packWordsV
  have h := packed_ev ws hs
  unfold packedV at h
  by_cases c : ws.length > 60
  · rw [if_pos c] at h ⊢
    exact ev_bind h (ev_neg (by simp) (ev_now rfl))
  · rw [if_neg c] at h ⊢
    by_cases d : (∀ w ∈ ws, w.length ≤ 200) ∧ (packL ws).length ≤ 4000
    · rw [if_pos d] at h ⊢
      exact ev_bind h (ev_pos rfl (ev_now rfl))
    · rw [if_neg d] at h ⊢
      exact ev_bind h (ev_neg (by simp) (ev_now rfl))
end Go.Proofs.Ytchmaojmknfbpaa.S

/- Rows of rows of the call's own, no two of which share memory; where in memory they lie; what the laws' marks make of them. No condition beyond those in the statements. -/
set_option linter.unusedVariables false
set_option linter.unusedSimpArgs false
namespace Go.Proofs.Ytchmaojmknfbpaa.S
open Go Go.RowKit Go.Proofs.YtchmaojmknfbpaaW.PrintWords Go.Proofs.YtchmaojmknfbpaaW.PrintLast Go.Proofs.YtchmaojmknfbpaaW.PrintMore Go.Proofs.Ytchmaojmknfbpaa.Base

def In (lo hi : Nat) : Nat → Prop := fun k => lo ≤ k ∧ k < hi
theorem In_apart {lo hi a b : Nat} (h : hi ≤ a ∨ b ≤ lo) : ∀ k, In lo hi k → ¬ In a b k := fun k h1 h2 => by
  unfold In at h1 h2
  omega
theorem add_block (ad : Addr) (i : Nat) : (ad.add i).block = ad.block := by
  unfold Addr.add
  split <;> rfl
/-- Rows of bytes, each its own memory, all between lo and hi. -/
def AR (base : Nat) (w : World) (lo hi : Nat) (A : Option Addr) (ls : List (List Int)) : Prop :=
  ls.length ≤ 9223372036854775807 ∧ (ls = [] ∨ ∃ (ad : Addr) (vs : Nat → Value), A = some ad ∧ (lo ≤ ad.block ∧ ad.block < hi) ∧
    (∀ i, (h : i < ls.length) → w.cell? (ad.add i) = some (vs i) ∧ Kd.R (Kd.int .u8) 5 w base (fun k => some k = (vs i).ownBlock) (vs i) ls[i]) ∧
    (∀ i k, i < ls.length → (vs i).ownBlock = some k → (lo ≤ k ∧ k < hi) ∧ k ≠ ad.block) ∧
    (∀ i j k, i < ls.length → j < ls.length → i ≠ j → (vs i).ownBlock = some k → (vs j).ownBlock ≠ some k))
section
variable {base lo hi a b : Nat} {w w1 : World} {A : Option Addr} {ls : List (List Int)}
theorem AR.below (h : AR base w lo hi A ls) (hb : Below w.heap.size w w1) : AR base w1 lo hi A ls := by
  refine ⟨h.1, h.2.imp id ?_⟩
  rintro ⟨ad, vs, hA, hg, hr, hin, hap⟩
  exact ⟨ad, vs, hA, hg, fun i hi => ⟨(hb.cell (World.block_lt_of_cell? w _ (hr i hi).1)).trans (hr i hi).1, Kd.R_below (hr i hi).2 hb⟩, hin, hap⟩
theorem AR.kept (h : AR base w lo hi A ls) (hk : Kept w w1 (In a b)) (hd : hi ≤ a ∨ b ≤ lo) : AR base w1 lo hi A ls := by
  refine ⟨h.1, h.2.imp id ?_⟩
  rintro ⟨ad, vs, hA, hg, hr, hin, hap⟩
  exact ⟨ad, vs, hA, hg, fun i hi => ⟨cell_kept (hr i hi).1 hk (by rw [add_block]; exact In_apart hd _ hg), Kd.R_kept (hr i hi).2 hk (fun k hk2 => In_apart hd k (hin i k hi hk2.symm).1)⟩, hin, hap⟩
theorem AR.foot (h : AR base w lo hi A ls) : Kd.F (Kd.slice 5 (Kd.int .u8)) w (In lo hi) A ls.length ls := fun W' hW => by
  refine ⟨rfl, h.1, fun hp => ?_⟩
  rcases h.2 with rfl | ⟨ad, vs, hA, hg, hr, hin, hap⟩
  · simp at hp
  refine ⟨ad, hA, fun j p hj => ?_⟩
  obtain ⟨hjl, hpj⟩ := List.getElem?_eq_some_iff.1 hj
  obtain ⟨hc, hR⟩ := hr j hjl
  have hR2 : Kd.R (Kd.int .u8) 5 W' base (fun k => some k = (vs j).ownBlock) (vs j) ls[j] := Kd.R_step hR (fun k ho hlt => hW k (hin j k hjl ho.symm).1 hlt)
  rw [hpj] at hR2
  obtain ⟨A', c', hv⟩ := Kd.R_slice hR2
  rw [hv] at hR2
  obtain ⟨_, h2, h3⟩ := Kd.R_reads' hR2
  refine ⟨[vs j], rfl, ⟨A', c', by rw [hv], h2, h3⟩, fun i u hu => ?_⟩
  cases i with
  | zero =>
    have e1 : vs j = u := by simpa using hu
    rw [← e1]
    show W'.cell? (ad.add (j * 1 + 0)) = _
    rw [Nat.mul_one, Nat.add_zero]
    have hb := hW ad.block hg (by have := World.block_lt_of_cell? w _ hc; rwa [add_block] at this)
    rw [← hc]
    unfold World.cell?
    rw [add_block, hb]
  | succ i => simp at hu
end
/-- What the printed walks call apart is so. -/
theorem AR_of_S {e base base0 : Nat} {ok : Nat → Prop} {w : World} {v : Value} {ls : List (List Int)} (h : Kd.S (Kd.slice 5 (Kd.int .u8)) e w base0 ok v ls) (hb : base ≤ base0) :
    ∃ A c, v = .slice A ls.length c ∧ ls.length ≤ c ∧ AR base w base0 w.heap.size A ls := by
  have hR := Kd.S_R h
  obtain ⟨A, c, rfl⟩ := Kd.R_slice hR
  obtain ⟨_, hc, hC⟩ := Kd.R_reads' hR
  refine ⟨A, c, rfl, hc, hC.2.1, ?_⟩
  by_cases hz : ls = []
  · exact .inl hz
  have hp : 0 < ls.length := by cases ls with
    | nil => exact absurd rfl hz
    | cons x l => simp
  obtain ⟨f, hf⟩ := h
  obtain ⟨g, cap, hv, hg0, hg1, cells, hcells⟩ := Kd.R_form hR hp
  injection hv with hv1 hv2 hv3
  subst hv1
  have each : ∀ i, (hi : i < ls.length) → ∃ u, w.cell? ⟨g, i, none⟩ = some u ∧ Kd.R (Kd.int .u8) 5 w base0 (fun k => (ok k ∧ k ≠ g) ∧ f k = i) u ls[i] := fun i hi => by
    obtain ⟨cs, hcl, hM, hcc, _⟩ := Kd.R_elem (d := Kd.tag f (Kd.slice 5 (Kd.int .u8))) hf ([], 0) (i : Int) (by omega) (by omega)
    have e1 : ls.zipIdx.getD (i : Int).toNat ([], 0) = (ls[i], i) := by
      rw [Int.toNat_natCast, List.getD_eq_getElem?_getD, Kd.zip_at (List.getElem?_eq_getElem hi)]
      rfl
    rw [e1] at hM
    obtain ⟨u, rfl, hu⟩ := hM
    refine ⟨u, ?_, hu⟩
    have h1 := hcc 0 u rfl
    rw [Int.toNat_natCast] at h1
    have h2 : w.cell? ⟨g, i * 1 + 0, none⟩ = some u := h1
    rwa [Nat.mul_one, Nat.add_zero] at h2
  refine .inr ⟨⟨g, 0, none⟩, fun i => (w.cell? ⟨g, i, none⟩).getD (.bool false), rfl, ⟨hg0, hg1⟩, fun i hi => ?_, fun i k hi hk => ?_, fun i j k hi hj hij hk hk2 => ?_⟩
  · obtain ⟨u, hu, hr⟩ := each i hi
    rw [add_plain]
    simp only [hu, Option.getD_some]
    exact ⟨trivial, Kd.R_lower (Kd.R_tight rfl hr) hb⟩
  · obtain ⟨u, hu, hr⟩ := each i hi
    simp only [hu, Option.getD_some] at hk
    have := (Kd.R_bound hr).1 k hk
    exact ⟨⟨this.2.1, this.2.2.1⟩, this.1.1.2⟩
  · obtain ⟨u, hu, hr⟩ := each i hi
    obtain ⟨u2, hu2, hr2⟩ := each j hj
    simp only [hu, Option.getD_some] at hk
    simp only [hu2, Option.getD_some] at hk2
    have h1 := (hr.1 k hk).2
    have h2 := (hr2.1 k hk2).2
    omega
end Go.Proofs.Ytchmaojmknfbpaa.S
namespace Go.Proofs.Ytchmaojmknfbpaa.S
open Go Go.RowKit Go.Proofs.YtchmaojmknfbpaaW.PrintWords Go.Proofs.YtchmaojmknfbpaaW.PrintLast Go.Proofs.YtchmaojmknfbpaaW.PrintMore Go.Proofs.Ytchmaojmknfbpaa.Base
/-- Where a walk stands still: its goal under a word. -/
def Hold (p : Prop) : Prop := p
theorem hold_here {p : Prop} (h : Hold p) : p := h
theorem hold_go {p : Prop} (h : p) : Hold p := h
theorem AR.drew {base lo hi : Nat} {w : World} {A : Option Addr} {ls : List (List Int)} (h : AR base w lo hi A ls) : AR base w.drew lo hi A ls := h.below (below_drew1 (Below.refl _ _))
/-- A row of bytes of the call's own, between lo and hi. -/
theorem B_of_R {e base base0 : Nat} {ok : Nat → Prop} {w : World} {v : Value} {xs : List Int} (h : Kd.R (Kd.int .u8) e w base0 ok v xs) (hb : base ≤ base0) :
    ∃ A c, v = .slice A xs.length c ∧ Kd.R (Kd.int .u8) e w base (In base0 w.heap.size) (.slice A xs.length c) xs := by
  obtain ⟨A, c, rfl⟩ := Kd.R_slice h
  exact ⟨A, c, rfl, Kd.R_lower (Kd.R_mono (Kd.R_bound h) (fun k hk => ⟨hk.2.1, hk.2.2.1⟩)) hb⟩
theorem B_kept {e base lo hi a b : Nat} {w w1 : World} {v : Value} {xs : List Int} (h : Kd.R (Kd.int .u8) e w base (In lo hi) v xs) (hk : Kept w w1 (In a b)) (hd : hi ≤ a ∨ b ≤ lo) : Kd.R (Kd.int .u8) e w1 base (In lo hi) v xs := Kd.R_kept h hk (In_apart hd)
theorem blk_keptIn {g a b : Nat} {w w1 : World} {o : Obj} (h : w.heap[g]? = some o) (hk : Kept w w1 (In a b)) (hd : g < a ∨ b ≤ g) : w1.heap[g]? = some o := blk_kept h hk (fun h2 => by unfold In at h2; omega)
theorem row_store {P : Program} {ops : Array Oper} {rest : List Oper} {o : Oper} {a : Act} {w w0 : World} {B : Nat} {Q : Exit → Act → World → Prop} (hgd : o.guard = none) (ty : TypeId) (x y : Operand) (ho : o.op = .store ty x y)
    (g : Nat) (cells : Array Value) (hx : a.eval x = .pointer (some ⟨g, 0, none⟩)) (hy : a.eval y = .agg cells)
    (t : TypeId) (old : Array Value) (hg : w.heap[g]? = some (.cells old t (0, 0))) (hi : (P.info? ty).map (·.size) = some cells.size)
    (hold : old.size = cells.size) (h1 : cells.all (·.oneCell') = true) (hd : o.dst = none) (hb : Below B w0 w) (hB : B ≤ g)
    (h : ∀ w1 : World, w1.heap[g]? = some (.cells cells t (0, 0)) → Kept w w1 (In g (g + 1)) → Below B w0 w1 → wpList P ops Q rest a w1) : wpList P ops Q (o :: rest) a w := by
  refine wpList_store_row hgd ty x y ho g cells hx hy t old hg hi hold h1 ?_
  rw [hd]
  exact h _ (setRow_heap w g old cells t (0, 0) hg) ⟨by simp [World.setRow], fun k hk hn => setRow_other w g k cells (fun e => hn (by subst e; exact ⟨Nat.le_refl _, Nat.lt_succ_self _⟩))⟩ (below_setRow hb hB cells)
end Go.Proofs.Ytchmaojmknfbpaa.S

/- slices.Grow on nothing, slices.Concat on three slices of rows: what they come to. No condition beyond those in the statements. -/
set_option linter.unusedVariables false
set_option linter.unusedSimpArgs false
namespace Go.Proofs.Ytchmaojmknfbpaa.S
open Go Go.RowKit Go.Proofs.YtchmaojmknfbpaaW.PrintWords Go.Proofs.YtchmaojmknfbpaaW.PrintLast Go.Proofs.YtchmaojmknfbpaaW.PrintMore Go.Proofs.Ytchmaojmknfbpaa.Base
attribute [local go_sem] max2_int min2_int max_two min_two max_three min_three max_four min_four

set_option maxHeartbeats 8000000 in
set_option maxRecDepth 100000 in
theorem grow_calls (n : Int) (h0 : 0 ≤ n) (h1 : n ≤ 1000000000) (w : World) :
    Calls Try.prog 80 #[.slice none 0 0, .int .i64 n] w fun e w' => ∃ v : Value, e = .returned v ∧ Kd.N (Kd.slice 5 (Kd.int .u8)) 22 w' w.heap.size (fun _ => True) v [] ∧ Below w.heap.size w w' := by
  have HB := Aside0.mk (Below.refl w.heap.size w)
  have HN0 := Aside0.mk (Kd.N_nil (Kd.slice 5 (Kd.int .u8)) 22 w w.heap.size (fun _ => True))
  have H0 := Aside0.mk h0
  have H1 := Aside0.mk h1
  have c1_ : decide (n < 0) = false := decide_eq_false (by omega)
  have e1_ : wrap64 n = n := by unfold wrap64; omega
  by_cases hz : 0 < n
  · have c2_ : decide (0 < n) = true := decide_eq_true hz
    have c3_ : decide (0 < wrap64 n) = true := by rw [e1_]; exact c2_
    clear h0 h1
    go_enter Try.func80, Try.ntmps80
    go_wp2_with (first | ((with_reducible refine gate_builtin (b := .append) (xs := #[.tmp 20, .tmp 21]) rfl ?_); refine hold_here ?_))
    refine hold_go ?_
    at_builtin
    refine Kd.N_append_zeros (Kd.slice 5 (Kd.int .u8)) (w0 := w) w.heap.size rfl (.tmp 20) (.tmp 21) 23 3 22 (.slice none 0 0) 24 rfl Try.underlying23 Try.underlying3 info22 rfl (by decide) (by omega) (.slice none 0 0) [] [] (kx := .i64) (wrap64 n) (fun _ => True) rfl rfl (fun W' _ => ⟨none, 0, rfl, Nat.le_refl _, Kd.C_nil _ _⟩) (fun _ _ => trivial) HN0.out (by rw [e1_]; exact H0.out) HB.out (below_size HB.out) ?aL ?_
    case aL => (have := H1.out; have := H0.out; rw [e1_]; simp only [List.length_nil]; omega)
    intro v1 w1 hN_ hb hg_ ha_
    have HN := Aside0.mk hN_
    have HB1 := Aside0.mk hb
    clear hN_ hb hg_ ha_ HB HN0
    obtain ⟨A8, c8, e8⟩ := Kd.N_slice HN.out
    subst e8
    have q1_ : (0 ≤ (c8 : Int)) = True := eq_true (by omega)
    have q2_ : decide ((0 : Int) ≤ (c8 : Int)) = true := decide_eq_true (by omega)
    go_wp2
    go_ret
    exact ⟨_, rfl, Kd.N_take HN.out (Nat.zero_le _), HB1.out⟩
  · have c2_ : decide (0 < n) = false := decide_eq_false hz
    have c3_ : decide (0 < wrap64 n) = false := by rw [e1_]; exact c2_
    clear h0 h1
    go_enter Try.func80, Try.ntmps80
    go_wp2
    go_ret
    exact ⟨_, rfl, HN0.out, HB.out⟩
set_option maxHeartbeats 16000000 in
set_option maxRecDepth 100000 in
theorem concat_calls (g : Nat) (A0 A1 A2 : Option Addr) (c0 c1 c2 : Nat) (l0 l1 l2 : List (List Int)) (w : World) (hbx : w.heap[g]? = some (.cells #[.slice A0 l0.length c0, .slice A1 l1.length c1, .slice A2 l2.length c2] 23 (0, 0))) (h0 : Kd.C (Kd.slice 5 (Kd.int .u8)) w A0 l0.length l0) (h1 : Kd.C (Kd.slice 5 (Kd.int .u8)) w A1 l1.length l1) (h2 : Kd.C (Kd.slice 5 (Kd.int .u8)) w A2 l2.length l2) (hn : l0.length + l1.length + l2.length ≤ 1000000000) :
    Calls Try.prog 46 #[.slice (some ⟨g, 0, none⟩) 3 3] w fun e w' => ∃ v : Value, e = .returned v ∧ Kd.N (Kd.slice 5 (Kd.int .u8)) 22 w' w.heap.size (fun _ => True) v (l0 ++ l1 ++ l2) ∧ Below w.heap.size w w' := by
  have HB := Aside0.mk (Below.refl w.heap.size w)
  have BK := Aside0.mk hbx
  have HG := Aside0.mk (blk_lt hbx)
  have HL := Aside0.mk hn
  have F0 := Aside0.mk (Kd.C_F (Kd.heap_slice _ (Kd.heap_int _)) h0)
  have F1 := Aside0.mk (Kd.C_F (Kd.heap_slice _ (Kd.heap_int _)) h1)
  have F2 := Aside0.mk (Kd.C_F (Kd.heap_slice _ (Kd.heap_int _)) h2)
  clear hbx h0 h1 h2
  go_enter Try.func46, Try.ntmps46
  go_wp2
  go_loopg [3, 11] 3 (fun kq v3 v11 w' => ∃ i : Nat, Aside0 (i + kq = 3) ∧ Aside0 (Below w.heap.size w w') ∧ ((i = 0 ∧ v11 = .int .i64 0 ∧ v3 = .int .i64 0) ∨ (i = 1 ∧ v11 = .int .i64 1 ∧ v3 = .int .i64 (l0.length : Int)) ∨ (i = 2 ∧ v11 = .int .i64 2 ∧ v3 = .int .i64 ((l0.length : Int) + (l1.length : Int))) ∨ (i = 3 ∧ v11 = .int .i64 3 ∧ v3 = .int .i64 ((l0.length : Int) + (l1.length : Int) + (l2.length : Int)))))
  case atStart => exact ⟨0, ⟨rfl⟩, HB, .inl ⟨rfl, rfl, rfl⟩⟩
  case round =>
    clear HB
    obtain ⟨i, HJ, HB, hrel⟩ := hrel
    have BKr := Aside0.mk ((HB.out.block g HG.out).trans BK.out)
    have hz0 : wr.cell? ⟨g, 0, none⟩ = some (.slice A0 l0.length c0) := (blk_cell BKr.out 0).trans rfl
    have hz1 : wr.cell? ⟨g, 1, none⟩ = some (.slice A1 l1.length c1) := (blk_cell BKr.out 1).trans rfl
    have hz2 : wr.cell? ⟨g, 2, none⟩ = some (.slice A2 l2.length c2) := (blk_cell BKr.out 2).trans rfl
    have hl := HL.out
    rcases hrel with ⟨rfl, rfl, rfl⟩ | ⟨rfl, rfl, rfl⟩ | ⟨rfl, rfl, rfl⟩ | ⟨rfl, rfl, rfl⟩
    · cases gk with
      | zero => exact absurd HJ.out (by decide)
      | succ k1 =>
        have e1_ : wrap64 (0 + (l0.length : Int)) = (l0.length : Int) := by unfold wrap64; omega
        have c1_ : decide ((l0.length : Int) < 0) = false := decide_eq_false (by omega)
        clear hl
        go_wp2
        go_roundg k1
        case measure => have := HJ.out; omega
        case rel => exact ⟨1, ⟨by have := HJ.out; omega⟩, HB, .inr (.inl ⟨rfl, rfl, rfl⟩)⟩
    · cases gk with
      | zero => exact absurd HJ.out (by decide)
      | succ k1 =>
        have e1_ : wrap64 ((l0.length : Int) + (l1.length : Int)) = ((l0.length : Int) + (l1.length : Int)) := by unfold wrap64; omega
        have c1_ : decide (((l0.length : Int) + (l1.length : Int)) < 0) = false := decide_eq_false (by omega)
        clear hl
        go_wp2
        go_roundg k1
        case measure => have := HJ.out; omega
        case rel => exact ⟨2, ⟨by have := HJ.out; omega⟩, HB, .inr (.inr (.inl ⟨rfl, rfl, rfl⟩))⟩
    · cases gk with
      | zero => exact absurd HJ.out (by decide)
      | succ k1 =>
        have e1_ : wrap64 (((l0.length : Int) + (l1.length : Int)) + (l2.length : Int)) = ((l0.length : Int) + (l1.length : Int) + (l2.length : Int)) := by unfold wrap64; omega
        have c1_ : decide (((l0.length : Int) + (l1.length : Int) + (l2.length : Int)) < 0) = false := decide_eq_false (by omega)
        clear hl
        go_wp2
        go_roundg k1
        case measure => have := HJ.out; omega
        case rel => exact ⟨3, ⟨by have := HJ.out; omega⟩, HB, .inr (.inr (.inr ⟨rfl, rfl, rfl⟩))⟩
    · cases gk with
      | succ k1 => exact absurd HJ.out (by omega)
      | zero =>
        clear hl
        go_wp2_with (first | ((with_reducible refine gate_callee (f := 80) rfl ?_); refine hold_here ?_))
        refine hold_go ?_
        have hl := HL.out
        refine goesL_ (some 24) rfl rfl Try.func80 (by kernel_rfl) rfl #[.slice none 0 0, .int .i64 ((l0.length : Int) + (l1.length : Int) + (l2.length : Int))] rfl (by (try simp only [List.map_toArray, List.map_cons, List.map_nil]); first | done | rfl) ?_
        refine (grow_calls _ (by omega) (by omega) _).mono ?_
        rintro e w2 ⟨v, rfl, hN_, hb⟩
        refine ⟨_, rfl, ?_⟩
        have HN := Aside0.mk (Kd.N_lower hN_ (below_size HB.out))
        have HB2 := Aside0.mk (below_step HB.out hb)
        clear hN_ hb HB BKr hz0 hz1 hz2 hl HJ
        go_wp2
        go_loopg [6, 27] 3 (fun kq v6 v27 w' => ∃ (i : Nat) (xs : List (List Int)), Aside0 (i + kq = 3) ∧ Aside0 (Below w.heap.size w w') ∧ Aside0 (Kd.N (Kd.slice 5 (Kd.int .u8)) 22 w' w.heap.size (fun _ => True) v6 xs) ∧ ((i = 0 ∧ v27 = .int .i64 0 ∧ [] = xs) ∨ (i = 1 ∧ v27 = .int .i64 1 ∧ l0 = xs) ∨ (i = 2 ∧ v27 = .int .i64 2 ∧ l0 ++ l1 = xs) ∨ (i = 3 ∧ v27 = .int .i64 3 ∧ l0 ++ l1 ++ l2 = xs)))
        case atStart => exact ⟨0, [], ⟨rfl⟩, HB2, HN, .inl ⟨rfl, rfl, rfl⟩⟩
        case round =>
          clear HB2 HN
          obtain ⟨i, xs, HJ, HB, HN, hrel⟩ := hrel
          have BKr := Aside0.mk ((HB.out.block g HG.out).trans BK.out)
          have hz0 : wr.cell? ⟨g, 0, none⟩ = some (.slice A0 l0.length c0) := (blk_cell BKr.out 0).trans rfl
          have hz1 : wr.cell? ⟨g, 1, none⟩ = some (.slice A1 l1.length c1) := (blk_cell BKr.out 1).trans rfl
          have hz2 : wr.cell? ⟨g, 2, none⟩ = some (.slice A2 l2.length c2) := (blk_cell BKr.out 2).trans rfl
          rcases hrel with ⟨rfl, rfl, rfl⟩ | ⟨rfl, rfl, rfl⟩ | ⟨rfl, rfl, rfl⟩ | ⟨rfl, rfl, rfl⟩
          · cases gk with
            | zero => exact absurd HJ.out (by decide)
            | succ k1 =>
              go_wp2_with (first | ((with_reducible refine gate_builtin (b := .append) (xs := #[.tmp 31, .tmp 32]) rfl ?_); refine hold_here ?_))
              refine hold_go ?_
              at_builtin
              refine Kd.N_append_rows (Kd.slice 5 (Kd.int .u8)) (w0 := w) w.heap.size rfl (.tmp 31) (.tmp 32) 23 22 (.slice none 0 0) 24 rfl Try.underlying23 info22 rfl (by decide) (by omega) _ [] l0 A0 l0.length c0 (fun _ => True) (fun k => k < w.heap.size) rfl rfl HN.out (Kd.F_below F0.out HB.out) (fun k hk => ⟨trivial, fun e => by have := Kd.N_base HN.out k e.symm; omega⟩) (fun _ _ => trivial) HB.out (below_size HB.out) (by have := HL.out; (try simp only [List.length_append, List.length_nil]); omega) ?_
              intro v1 w1 hN_ hb hg_ ha_
              have HN1 := Aside0.mk hN_
              have HB1 := Aside0.mk hb
              clear hN_ hb hg_ ha_ HB HN BKr hz0 hz1 hz2
              go_wp2
              go_roundg k1
              case measure => have := HJ.out; omega
              case rel => exact ⟨1, _, ⟨by have := HJ.out; omega⟩, HB1, HN1, .inr (.inl ⟨rfl, rfl, (List.nil_append _).symm⟩)⟩
          · cases gk with
            | zero => exact absurd HJ.out (by decide)
            | succ k1 =>
              go_wp2_with (first | ((with_reducible refine gate_builtin (b := .append) (xs := #[.tmp 31, .tmp 32]) rfl ?_); refine hold_here ?_))
              refine hold_go ?_
              at_builtin
              refine Kd.N_append_rows (Kd.slice 5 (Kd.int .u8)) (w0 := w) w.heap.size rfl (.tmp 31) (.tmp 32) 23 22 (.slice none 0 0) 24 rfl Try.underlying23 info22 rfl (by decide) (by omega) _ l0 l1 A1 l1.length c1 (fun _ => True) (fun k => k < w.heap.size) rfl rfl HN.out (Kd.F_below F1.out HB.out) (fun k hk => ⟨trivial, fun e => by have := Kd.N_base HN.out k e.symm; omega⟩) (fun _ _ => trivial) HB.out (below_size HB.out) (by have := HL.out; (try simp only [List.length_append, List.length_nil]); omega) ?_
              intro v1 w1 hN_ hb hg_ ha_
              have HN1 := Aside0.mk hN_
              have HB1 := Aside0.mk hb
              clear hN_ hb hg_ ha_ HB HN BKr hz0 hz1 hz2
              go_wp2
              go_roundg k1
              case measure => have := HJ.out; omega
              case rel => exact ⟨2, _, ⟨by have := HJ.out; omega⟩, HB1, HN1, .inr (.inr (.inl ⟨rfl, rfl, rfl⟩))⟩
          · cases gk with
            | zero => exact absurd HJ.out (by decide)
            | succ k1 =>
              go_wp2_with (first | ((with_reducible refine gate_builtin (b := .append) (xs := #[.tmp 31, .tmp 32]) rfl ?_); refine hold_here ?_))
              refine hold_go ?_
              at_builtin
              refine Kd.N_append_rows (Kd.slice 5 (Kd.int .u8)) (w0 := w) w.heap.size rfl (.tmp 31) (.tmp 32) 23 22 (.slice none 0 0) 24 rfl Try.underlying23 info22 rfl (by decide) (by omega) _ (l0 ++ l1) l2 A2 l2.length c2 (fun _ => True) (fun k => k < w.heap.size) rfl rfl HN.out (Kd.F_below F2.out HB.out) (fun k hk => ⟨trivial, fun e => by have := Kd.N_base HN.out k e.symm; omega⟩) (fun _ _ => trivial) HB.out (below_size HB.out) (by have := HL.out; (try simp only [List.length_append, List.length_nil]); omega) ?_
              intro v1 w1 hN_ hb hg_ ha_
              have HN1 := Aside0.mk hN_
              have HB1 := Aside0.mk hb
              clear hN_ hb hg_ ha_ HB HN BKr hz0 hz1 hz2
              go_wp2
              go_roundg k1
              case measure => have := HJ.out; omega
              case rel => exact ⟨3, _, ⟨by have := HJ.out; omega⟩, HB1, HN1, .inr (.inr (.inr (⟨rfl, rfl, rfl⟩)))⟩
          · cases gk with
            | succ k1 => exact absurd HJ.out (by omega)
            | zero =>
              clear BKr hz0 hz1 hz2
              go_wp2
              go_ret
              have HNx := HN.out
              rw [List.append_assoc] at HNx
              exact ⟨_, rfl, HNx, HB.out⟩

end Go.Proofs.Ytchmaojmknfbpaa.S

/- impl.PackSign: what it comes to. No condition beyond those in the statements. -/
set_option linter.unusedVariables false
set_option linter.unusedSimpArgs false
namespace Go.Proofs.Ytchmaojmknfbpaa.S
open Go Go.RowKit Go.Proofs.YtchmaojmknfbpaaW.PrintWords Go.Proofs.YtchmaojmknfbpaaW.PrintLast Go.Proofs.YtchmaojmknfbpaaW.PrintMore Go.Proofs.Ytchmaojmknfbpaa.Base
attribute [local go_sem] max2_int min2_int max_two min_two max_three min_three max_four min_four

set_option maxHeartbeats 16000000 in
set_option maxRecDepth 100000 in
theorem packSign_no (k : Nat) (a0 : Int) (A1 : Option Addr) (c1 : Nat) (l1 : List (List Int)) (a2 a3 : Int) (A4 : Option Addr) (c4 : Nat) (l4 : List (List Int)) (w : World) (hr1 : Kd.C (Kd.slice 5 (Kd.int .u8)) w A1 l1.length l1) (hc1 : l1.length ≤ c1) (hr4 : Kd.C (Kd.slice 5 (Kd.int .u8)) w A4 l4.length l4) (hc4 : l4.length ≤ c4) (hp : impl_Signature_isPlaced.f a0 l1 a2 a3 l4 = some false) :
    Calls Try.prog 18 #[.agg #[.int .i64 a0, .slice A1 l1.length c1, .int .i64 a2, .int .i64 a3, .slice A4 l4.length c4]] w fun e w' => ∃ v1_ : Value, e = .returned (.agg #[.int .i64 1, v1_]) ∧ Kd.R (Kd.int .u8) 5 w' w.heap.size (fun _ => True) v1_ [] ∧ Below w.heap.size w w' := by
  have hu1_ := Try.underlying27
  have hu2_ := Try.underlying42
  have hu3_ := Try.underlying25
  have HR1 := Aside0.mk hr1
  have HC1 := Aside0.mk hc1
  have HR4 := Aside0.mk hr4
  have HC4 := Aside0.mk hc4
  have HB := Aside0.mk (Below.refl w.heap.size w)
  have A43 := Aside0.mk hp
  clear hr1 hc1 hr4 hc4 hp
  go_enter Try.func18, Try.ntmps18
  go_wp2_with (first | ((with_reducible refine gate_dst (N := 1) rfl ?_); refine hold_here ?_))
  refine hold_go ?_
  refine box_event (N := 1) (cs := #[.int .i64 a0, .slice A1 l1.length c1, .int .i64 a2, .int .i64 a3, .slice A4 l4.length c4]) (t := 27) ?hgb rfl ?hrb ?_
  case hgb => rfl
  case hrb => first | (go_simp; done) | (go_simp; rfl)
  intro g1 hg w1 hbox hb
  replace HB := Aside0.mk (below_step HB.out hb)
  have BK1 := Aside0.mk hbox
  clear hbox hb hg
  go_wp2_with (first | ((with_reducible refine gate_dst (N := 2) rfl ?_); refine hold_here ?_))
  refine hold_go ?_
  refine box_event (N := 2) (cs := #[.int .i64 0, .slice none 0 0]) (t := 42) ?hgb rfl ?hrb ?_
  case hgb => rfl
  case hrb => first | (go_simp; done) | (go_simp; rfl)
  intro g2 hg w2 hbox hb
  have BK2 := Aside0.mk hbox
  have GE2 := Aside0.mk (show w.heap.size ≤ g2 by rw [hg]; exact below_size HB.out)
  have NE := Aside0.mk (show g1 ≠ g2 by rw [hg]; exact Nat.ne_of_lt (blk_lt BK1.out))
  clear hbox hg
  replace BK1 := Aside0.mk (blk_below BK1.out hb)
  replace HB := Aside0.mk (below_step HB.out hb)
  clear hb
  have hz0 : w2.cell? ⟨g1, 0, none⟩ = some (.int .i64 a0) := (blk_cell BK1.out 0).trans rfl
  have hf0 := blk_frozen BK1.out 0
  have hz1 : w2.cell? ⟨g1, 1, none⟩ = some (.slice A1 l1.length c1) := (blk_cell BK1.out 1).trans rfl
  have hf1 := blk_frozen BK1.out 1
  have hz2 : w2.cell? ⟨g1, 2, none⟩ = some (.int .i64 a2) := (blk_cell BK1.out 2).trans rfl
  have hf2 := blk_frozen BK1.out 2
  have hz3 : w2.cell? ⟨g1, 3, none⟩ = some (.int .i64 a3) := (blk_cell BK1.out 3).trans rfl
  have hf3 := blk_frozen BK1.out 3
  have hz4 : w2.cell? ⟨g1, 4, none⟩ = some (.slice A4 l4.length c4) := (blk_cell BK1.out 4).trans rfl
  have hf4 := blk_frozen BK1.out 4
  go_wp2_with (first | ((with_reducible refine gate_callee (f := 43) rfl ?_); refine hold_here ?_))
  refine hold_go ?_
  refine goesL_ (some 4) rfl rfl Try.func43 (by kernel_rfl) rfl #[.agg #[.int .i64 a0, .slice A1 l1.length c1, .int .i64 a2, .int .i64 a3, .slice A4 l4.length c4]] rfl (by (try simp only [List.map_toArray, List.map_cons, List.map_nil]); first | done | rfl) ?_
  refine (impl_Signature_isPlaced.calls a0 A1 c1 l1 a2 a3 A4 c4 l4 _ _ (Kd.C_below HR1.out HB.out) HC1.out (Kd.C_below HR4.out HB.out) HC4.out A43.out).mono ?_
  rintro e w3 ⟨rfl, hb⟩
  refine ⟨_, rfl, ?_⟩
  clear hz0 hf0 hz1 hf1 hz2 hf2 hz3 hf3 hz4 hf4
  replace BK1 := Aside0.mk (blk_below BK1.out hb)
  replace BK2 := Aside0.mk (blk_below BK2.out hb)
  replace HB := Aside0.mk (below_step HB.out hb)
  clear hb
  have hz0 : w3.cell? ⟨g1, 0, none⟩ = some (.int .i64 a0) := (blk_cell BK1.out 0).trans rfl
  have hf0 := blk_frozen BK1.out 0
  have hz1 : w3.cell? ⟨g1, 1, none⟩ = some (.slice A1 l1.length c1) := (blk_cell BK1.out 1).trans rfl
  have hf1 := blk_frozen BK1.out 1
  have hz2 : w3.cell? ⟨g1, 2, none⟩ = some (.int .i64 a2) := (blk_cell BK1.out 2).trans rfl
  have hf2 := blk_frozen BK1.out 2
  have hz3 : w3.cell? ⟨g1, 3, none⟩ = some (.int .i64 a3) := (blk_cell BK1.out 3).trans rfl
  have hf3 := blk_frozen BK1.out 3
  have hz4 : w3.cell? ⟨g1, 4, none⟩ = some (.slice A4 l4.length c4) := (blk_cell BK1.out 4).trans rfl
  have hf4 := blk_frozen BK1.out 4
  clear hz0 hf0 hz1 hf1 hz2 hf2 hz3 hf3 hz4 hf4
  have hy0 : w3.cell? ⟨g2, 0, none⟩ = some (.int .i64 0) := (blk_cell BK2.out 0).trans rfl
  have hy1 : w3.cell? ⟨g2, 1, none⟩ = some (.slice none 0 0) := (blk_cell BK2.out 1).trans rfl
  have he0 := blk_frozen BK2.out 0
  have he1 := blk_frozen BK2.out 1
  have hn_ := NE.out
  have hm_ := fun e => NE.out (Eq.symm e)
  go_wp2
  refine bodyPost_ret (results_cell_row rfl _ _ g2 42 #[.int .i64 1, .slice none 0 0] (0, 0) _ rfl (by refine blk_put (cs := #[.int .i64 1, .slice none 0 0]) ?_ 1 _ rfl; refine blk_put (cs := #[.int .i64 0, .slice none 0 0]) ?_ 0 _ rfl; exact BK2.out) Try.underlying42 rfl (by kernel_rfl)) rfl ?_
  exact ⟨_, rfl, Kd.R_nil _ _ _ _ _, below_set (below_set HB.out GE2.out) GE2.out⟩
set_option maxHeartbeats 16000000 in
set_option maxRecDepth 100000 in
theorem packSign_bad (k : Nat) (a0 : Int) (A1 : Option Addr) (c1 : Nat) (l1 : List (List Int)) (a2 a3 : Int) (A4 : Option Addr) (c4 : Nat) (l4 : List (List Int)) (w : World) (hr1 : Kd.C (Kd.slice 5 (Kd.int .u8)) w A1 l1.length l1) (hc1 : l1.length ≤ c1) (hr4 : Kd.C (Kd.slice 5 (Kd.int .u8)) w A4 l4.length l4) (hc4 : l4.length ≤ c4) (hp : impl_Signature_isPlaced.f a0 l1 a2 a3 l4 = some true) (hq : impl_isProof.f k a2 a3 l4 = some false) :
    Calls Try.prog 18 #[.agg #[.int .i64 a0, .slice A1 l1.length c1, .int .i64 a2, .int .i64 a3, .slice A4 l4.length c4]] w fun e w' => ∃ v1_ : Value, e = .returned (.agg #[.int .i64 1, v1_]) ∧ Kd.R (Kd.int .u8) 5 w' w.heap.size (fun _ => True) v1_ [] ∧ Below w.heap.size w w' := by
  have hu1_ := Try.underlying27
  have hu2_ := Try.underlying42
  have hu3_ := Try.underlying25
  have HR1 := Aside0.mk hr1
  have HC1 := Aside0.mk hc1
  have HR4 := Aside0.mk hr4
  have HC4 := Aside0.mk hc4
  have HB := Aside0.mk (Below.refl w.heap.size w)
  have A43 := Aside0.mk hp
  have A44 := Aside0.mk hq
  clear hr1 hc1 hr4 hc4 hp hq
  go_enter Try.func18, Try.ntmps18
  go_wp2_with (first | ((with_reducible refine gate_dst (N := 1) rfl ?_); refine hold_here ?_))
  refine hold_go ?_
  refine box_event (N := 1) (cs := #[.int .i64 a0, .slice A1 l1.length c1, .int .i64 a2, .int .i64 a3, .slice A4 l4.length c4]) (t := 27) ?hgb rfl ?hrb ?_
  case hgb => rfl
  case hrb => first | (go_simp; done) | (go_simp; rfl)
  intro g1 hg w1 hbox hb
  replace HB := Aside0.mk (below_step HB.out hb)
  have BK1 := Aside0.mk hbox
  clear hbox hb hg
  go_wp2_with (first | ((with_reducible refine gate_dst (N := 2) rfl ?_); refine hold_here ?_))
  refine hold_go ?_
  refine box_event (N := 2) (cs := #[.int .i64 0, .slice none 0 0]) (t := 42) ?hgb rfl ?hrb ?_
  case hgb => rfl
  case hrb => first | (go_simp; done) | (go_simp; rfl)
  intro g2 hg w2 hbox hb
  have BK2 := Aside0.mk hbox
  have GE2 := Aside0.mk (show w.heap.size ≤ g2 by rw [hg]; exact below_size HB.out)
  have NE := Aside0.mk (show g1 ≠ g2 by rw [hg]; exact Nat.ne_of_lt (blk_lt BK1.out))
  clear hbox hg
  replace BK1 := Aside0.mk (blk_below BK1.out hb)
  replace HB := Aside0.mk (below_step HB.out hb)
  clear hb
  have hz0 : w2.cell? ⟨g1, 0, none⟩ = some (.int .i64 a0) := (blk_cell BK1.out 0).trans rfl
  have hf0 := blk_frozen BK1.out 0
  have hz1 : w2.cell? ⟨g1, 1, none⟩ = some (.slice A1 l1.length c1) := (blk_cell BK1.out 1).trans rfl
  have hf1 := blk_frozen BK1.out 1
  have hz2 : w2.cell? ⟨g1, 2, none⟩ = some (.int .i64 a2) := (blk_cell BK1.out 2).trans rfl
  have hf2 := blk_frozen BK1.out 2
  have hz3 : w2.cell? ⟨g1, 3, none⟩ = some (.int .i64 a3) := (blk_cell BK1.out 3).trans rfl
  have hf3 := blk_frozen BK1.out 3
  have hz4 : w2.cell? ⟨g1, 4, none⟩ = some (.slice A4 l4.length c4) := (blk_cell BK1.out 4).trans rfl
  have hf4 := blk_frozen BK1.out 4
  go_wp2_with (first | ((with_reducible refine gate_callee (f := 43) rfl ?_); refine hold_here ?_))
  refine hold_go ?_
  refine goesL_ (some 4) rfl rfl Try.func43 (by kernel_rfl) rfl #[.agg #[.int .i64 a0, .slice A1 l1.length c1, .int .i64 a2, .int .i64 a3, .slice A4 l4.length c4]] rfl (by (try simp only [List.map_toArray, List.map_cons, List.map_nil]); first | done | rfl) ?_
  refine (impl_Signature_isPlaced.calls a0 A1 c1 l1 a2 a3 A4 c4 l4 _ _ (Kd.C_below HR1.out HB.out) HC1.out (Kd.C_below HR4.out HB.out) HC4.out A43.out).mono ?_
  rintro e w3 ⟨rfl, hb⟩
  refine ⟨_, rfl, ?_⟩
  clear hz0 hf0 hz1 hf1 hz2 hf2 hz3 hf3 hz4 hf4
  replace BK1 := Aside0.mk (blk_below BK1.out hb)
  replace BK2 := Aside0.mk (blk_below BK2.out hb)
  replace HB := Aside0.mk (below_step HB.out hb)
  clear hb
  have hz0 : w3.cell? ⟨g1, 0, none⟩ = some (.int .i64 a0) := (blk_cell BK1.out 0).trans rfl
  have hf0 := blk_frozen BK1.out 0
  have hz1 : w3.cell? ⟨g1, 1, none⟩ = some (.slice A1 l1.length c1) := (blk_cell BK1.out 1).trans rfl
  have hf1 := blk_frozen BK1.out 1
  have hz2 : w3.cell? ⟨g1, 2, none⟩ = some (.int .i64 a2) := (blk_cell BK1.out 2).trans rfl
  have hf2 := blk_frozen BK1.out 2
  have hz3 : w3.cell? ⟨g1, 3, none⟩ = some (.int .i64 a3) := (blk_cell BK1.out 3).trans rfl
  have hf3 := blk_frozen BK1.out 3
  have hz4 : w3.cell? ⟨g1, 4, none⟩ = some (.slice A4 l4.length c4) := (blk_cell BK1.out 4).trans rfl
  have hf4 := blk_frozen BK1.out 4
  go_wp2_with (first | ((with_reducible refine gate_callee (f := 44) rfl ?_); refine hold_here ?_))
  refine hold_go ?_
  (try (refine gate_guard (by rfl) ?_; dsimp only))
  refine goesL_ (some 9) rfl rfl Try.func44 (by kernel_rfl) rfl #[.agg #[.int .i64 a2, .int .i64 a3, .slice A4 l4.length c4]] rfl (by (try simp only [List.map_toArray, List.map_cons, List.map_nil]); first | done | rfl) ?_
  refine (impl_isProof.calls k a2 a3 A4 c4 l4 _ _ (Kd.C_below HR4.out HB.out) HC4.out A44.out).mono ?_
  rintro e w4 ⟨rfl, hb⟩
  refine ⟨_, rfl, ?_⟩
  clear hz0 hf0 hz1 hf1 hz2 hf2 hz3 hf3 hz4 hf4
  replace BK1 := Aside0.mk (blk_below BK1.out hb)
  replace BK2 := Aside0.mk (blk_below BK2.out hb)
  replace HB := Aside0.mk (below_step HB.out hb)
  clear hb
  have hy0 : w4.cell? ⟨g2, 0, none⟩ = some (.int .i64 0) := (blk_cell BK2.out 0).trans rfl
  have hy1 : w4.cell? ⟨g2, 1, none⟩ = some (.slice none 0 0) := (blk_cell BK2.out 1).trans rfl
  have he0 := blk_frozen BK2.out 0
  have he1 := blk_frozen BK2.out 1
  have hn_ := NE.out
  have hm_ := fun e => NE.out (Eq.symm e)
  go_wp2
  refine bodyPost_ret (results_cell_row rfl _ _ g2 42 #[.int .i64 1, .slice none 0 0] (0, 0) _ rfl (by refine blk_put (cs := #[.int .i64 1, .slice none 0 0]) ?_ 1 _ rfl; refine blk_put (cs := #[.int .i64 0, .slice none 0 0]) ?_ 0 _ rfl; exact BK2.out) Try.underlying42 rfl (by kernel_rfl)) rfl ?_
  exact ⟨_, rfl, Kd.R_nil _ _ _ _ _, below_set (below_set HB.out GE2.out) GE2.out⟩
set_option maxHeartbeats 16000000 in
set_option maxRecDepth 100000 in
theorem packSign_ok (k : Nat) (a0 : Int) (A1 : Option Addr) (c1 : Nat) (l1 : List (List Int)) (a2 a3 : Int) (A4 : Option Addr) (c4 : Nat) (l4 : List (List Int)) (r1 : Int) (r2 : List Int) (w : World) (hr1 : Kd.C (Kd.slice 5 (Kd.int .u8)) w A1 l1.length l1) (hc1 : l1.length ≤ c1) (hr4 : Kd.C (Kd.slice 5 (Kd.int .u8)) w A4 l4.length l4) (hc4 : l4.length ≤ c4) (hp : impl_Signature_isPlaced.f a0 l1 a2 a3 l4 = some true) (hq : impl_isProof.f k a2 a3 l4 = some true) (hl : l1.length + l4.length ≤ 900000000) (hk : impl_PackWords.f k ([[a0 % 256]] ++ l1 ++ l4) = some (r1, r2)) :
    Calls Try.prog 18 #[.agg #[.int .i64 a0, .slice A1 l1.length c1, .int .i64 a2, .int .i64 a3, .slice A4 l4.length c4]] w fun e w' => ∃ v1_ : Value, e = .returned (.agg #[.int .i64 r1, v1_]) ∧ Kd.R (Kd.int .u8) 5 w' w.heap.size (fun _ => True) v1_ r2 ∧ Below w.heap.size w w' := by
  have hu1_ := Try.underlying27
  have hu2_ := Try.underlying42
  have hu3_ := Try.underlying25
  have HR1 := Aside0.mk hr1
  have HC1 := Aside0.mk hc1
  have HR4 := Aside0.mk hr4
  have HC4 := Aside0.mk hc4
  have HB := Aside0.mk (Below.refl w.heap.size w)
  have A43 := Aside0.mk hp
  have A44 := Aside0.mk hq
  have A45 := Aside0.mk hk
  have HL := Aside0.mk hl
  clear hr1 hc1 hr4 hc4 hp hq hk hl
  go_enter Try.func18, Try.ntmps18
  go_wp2_with (first | ((with_reducible refine gate_dst (N := 1) rfl ?_); refine hold_here ?_))
  refine hold_go ?_
  refine box_event (N := 1) (cs := #[.int .i64 a0, .slice A1 l1.length c1, .int .i64 a2, .int .i64 a3, .slice A4 l4.length c4]) (t := 27) ?hgb rfl ?hrb ?_
  case hgb => rfl
  case hrb => first | (go_simp; done) | (go_simp; rfl)
  intro g1 hg w1 hbox hb
  replace HB := Aside0.mk (below_step HB.out hb)
  have BK1 := Aside0.mk hbox
  clear hbox hb hg
  go_wp2_with (first | ((with_reducible refine gate_dst (N := 2) rfl ?_); refine hold_here ?_))
  refine hold_go ?_
  refine box_event (N := 2) (cs := #[.int .i64 0, .slice none 0 0]) (t := 42) ?hgb rfl ?hrb ?_
  case hgb => rfl
  case hrb => first | (go_simp; done) | (go_simp; rfl)
  intro g2 hg w2 hbox hb
  have BK2 := Aside0.mk hbox
  have GE2 := Aside0.mk (show w.heap.size ≤ g2 by rw [hg]; exact below_size HB.out)
  have NE := Aside0.mk (show g1 ≠ g2 by rw [hg]; exact Nat.ne_of_lt (blk_lt BK1.out))
  clear hbox hg
  replace BK1 := Aside0.mk (blk_below BK1.out hb)
  replace HB := Aside0.mk (below_step HB.out hb)
  clear hb
  have hz0 : w2.cell? ⟨g1, 0, none⟩ = some (.int .i64 a0) := (blk_cell BK1.out 0).trans rfl
  have hf0 := blk_frozen BK1.out 0
  have hz1 : w2.cell? ⟨g1, 1, none⟩ = some (.slice A1 l1.length c1) := (blk_cell BK1.out 1).trans rfl
  have hf1 := blk_frozen BK1.out 1
  have hz2 : w2.cell? ⟨g1, 2, none⟩ = some (.int .i64 a2) := (blk_cell BK1.out 2).trans rfl
  have hf2 := blk_frozen BK1.out 2
  have hz3 : w2.cell? ⟨g1, 3, none⟩ = some (.int .i64 a3) := (blk_cell BK1.out 3).trans rfl
  have hf3 := blk_frozen BK1.out 3
  have hz4 : w2.cell? ⟨g1, 4, none⟩ = some (.slice A4 l4.length c4) := (blk_cell BK1.out 4).trans rfl
  have hf4 := blk_frozen BK1.out 4
  go_wp2_with (first | ((with_reducible refine gate_callee (f := 43) rfl ?_); refine hold_here ?_))
  refine hold_go ?_
  refine goesL_ (some 4) rfl rfl Try.func43 (by kernel_rfl) rfl #[.agg #[.int .i64 a0, .slice A1 l1.length c1, .int .i64 a2, .int .i64 a3, .slice A4 l4.length c4]] rfl (by (try simp only [List.map_toArray, List.map_cons, List.map_nil]); first | done | rfl) ?_
  refine (impl_Signature_isPlaced.calls a0 A1 c1 l1 a2 a3 A4 c4 l4 _ _ (Kd.C_below HR1.out HB.out) HC1.out (Kd.C_below HR4.out HB.out) HC4.out A43.out).mono ?_
  rintro e w3 ⟨rfl, hb⟩
  refine ⟨_, rfl, ?_⟩
  clear hz0 hf0 hz1 hf1 hz2 hf2 hz3 hf3 hz4 hf4
  replace BK1 := Aside0.mk (blk_below BK1.out hb)
  replace BK2 := Aside0.mk (blk_below BK2.out hb)
  replace HB := Aside0.mk (below_step HB.out hb)
  clear hb
  have hz0 : w3.cell? ⟨g1, 0, none⟩ = some (.int .i64 a0) := (blk_cell BK1.out 0).trans rfl
  have hf0 := blk_frozen BK1.out 0
  have hz1 : w3.cell? ⟨g1, 1, none⟩ = some (.slice A1 l1.length c1) := (blk_cell BK1.out 1).trans rfl
  have hf1 := blk_frozen BK1.out 1
  have hz2 : w3.cell? ⟨g1, 2, none⟩ = some (.int .i64 a2) := (blk_cell BK1.out 2).trans rfl
  have hf2 := blk_frozen BK1.out 2
  have hz3 : w3.cell? ⟨g1, 3, none⟩ = some (.int .i64 a3) := (blk_cell BK1.out 3).trans rfl
  have hf3 := blk_frozen BK1.out 3
  have hz4 : w3.cell? ⟨g1, 4, none⟩ = some (.slice A4 l4.length c4) := (blk_cell BK1.out 4).trans rfl
  have hf4 := blk_frozen BK1.out 4
  go_wp2_with (first | ((with_reducible refine gate_callee (f := 44) rfl ?_); refine hold_here ?_))
  refine hold_go ?_
  (try (refine gate_guard (by rfl) ?_; dsimp only))
  refine goesL_ (some 9) rfl rfl Try.func44 (by kernel_rfl) rfl #[.agg #[.int .i64 a2, .int .i64 a3, .slice A4 l4.length c4]] rfl (by (try simp only [List.map_toArray, List.map_cons, List.map_nil]); first | done | rfl) ?_
  refine (impl_isProof.calls k a2 a3 A4 c4 l4 _ _ (Kd.C_below HR4.out HB.out) HC4.out A44.out).mono ?_
  rintro e w4 ⟨rfl, hb⟩
  refine ⟨_, rfl, ?_⟩
  clear hz0 hf0 hz1 hf1 hz2 hf2 hz3 hf3 hz4 hf4
  replace BK1 := Aside0.mk (blk_below BK1.out hb)
  replace BK2 := Aside0.mk (blk_below BK2.out hb)
  replace HB := Aside0.mk (below_step HB.out hb)
  clear hb
  have hz0 : w4.cell? ⟨g1, 0, none⟩ = some (.int .i64 a0) := (blk_cell BK1.out 0).trans rfl
  have hf0 := blk_frozen BK1.out 0
  have hz1 : w4.cell? ⟨g1, 1, none⟩ = some (.slice A1 l1.length c1) := (blk_cell BK1.out 1).trans rfl
  have hf1 := blk_frozen BK1.out 1
  have hz2 : w4.cell? ⟨g1, 2, none⟩ = some (.int .i64 a2) := (blk_cell BK1.out 2).trans rfl
  have hf2 := blk_frozen BK1.out 2
  have hz3 : w4.cell? ⟨g1, 3, none⟩ = some (.int .i64 a3) := (blk_cell BK1.out 3).trans rfl
  have hf3 := blk_frozen BK1.out 3
  have hz4 : w4.cell? ⟨g1, 4, none⟩ = some (.slice A4 l4.length c4) := (blk_cell BK1.out 4).trans rfl
  have hf4 := blk_frozen BK1.out 4
  go_wp2_with (first | ((with_reducible refine gate_dst (N := 16) rfl ?_); refine hold_here ?_))
  refine hold_go ?_
  refine Kd.R_lit (Kd.int .u8) _ 5 ?hgb (N := 16) rfl (xs := ([a0 % 256] : List Int)) (inner := [.int .u8 (a0 % 256)]) (ok := fun _ => True) (okp := fun _ => True) ?hrb ?hpb (fun _ hk => hk) trivial (Below.refl _ _) (Nat.le_refl _) (by simp) ?_
  case hgb => rfl
  case hrb => first | (go_simp; done) | (go_simp; rfl)
  case hpb => exact (Reps.one (show Kd.M (Kd.int .u8) _ _ _ (a0 % 256) [.int .u8 (a0 % 256)] from rfl) (Reps.none _ _))
  intro v5 w5 ho hb hg_ hnew_
  have HO := Aside0.mk ho
  clear ho hg_ hnew_
  clear hz0 hf0 hz1 hf1 hz2 hf2 hz3 hf3 hz4 hf4
  replace BK1 := Aside0.mk (blk_below BK1.out hb)
  replace BK2 := Aside0.mk (blk_below BK2.out hb)
  replace HB := Aside0.mk (below_step HB.out hb)
  clear hb
  have hz0 : w5.cell? ⟨g1, 0, none⟩ = some (.int .i64 a0) := (blk_cell BK1.out 0).trans rfl
  have hf0 := blk_frozen BK1.out 0
  have hz1 : w5.cell? ⟨g1, 1, none⟩ = some (.slice A1 l1.length c1) := (blk_cell BK1.out 1).trans rfl
  have hf1 := blk_frozen BK1.out 1
  have hz2 : w5.cell? ⟨g1, 2, none⟩ = some (.int .i64 a2) := (blk_cell BK1.out 2).trans rfl
  have hf2 := blk_frozen BK1.out 2
  have hz3 : w5.cell? ⟨g1, 3, none⟩ = some (.int .i64 a3) := (blk_cell BK1.out 3).trans rfl
  have hf3 := blk_frozen BK1.out 3
  have hz4 : w5.cell? ⟨g1, 4, none⟩ = some (.slice A4 l4.length c4) := (blk_cell BK1.out 4).trans rfl
  have hf4 := blk_frozen BK1.out 4
  obtain ⟨A5, c5, e5⟩ := Kd.R_slice HO.out
  subst e5
  go_wp2_with (first | ((with_reducible refine gate_dst (N := 17) rfl ?_); refine hold_here ?_))
  refine hold_go ?_
  refine Kd.N_lit (Kd.slice 5 (Kd.int .u8)) _ 22 ?hgb (N' := 17) rfl (xs := ([[a0 % 256]] : List (List Int))) (inner := [.slice A5 [a0 % 256].length c5]) (ok := fun _ => True) (okp := fun _ => True) ?hrb ?hpb (fun _ hk => hk) trivial (Below.refl _ _) (Nat.le_refl _) (by simp) ?_
  case hgb => rfl
  case hrb => first | (go_simp; done) | (go_simp; rfl)
  case hpb => exact (Reps.one (show Kd.FK (Kd.slice 5 (Kd.int .u8)) _ _ [a0 % 256] [.slice A5 [a0 % 256].length c5] from Kd.FK_slice_mk (Kd.R_reads' HO.out).2.1 (Kd.R_F HO.out)) (Reps.none _ _))
  intro v6 w6 ho hb hg_ hnew_
  have HQ := Aside0.mk ho
  clear ho hg_ hnew_ HO
  clear hz0 hf0 hz1 hf1 hz2 hf2 hz3 hf3 hz4 hf4
  replace BK1 := Aside0.mk (blk_below BK1.out hb)
  replace BK2 := Aside0.mk (blk_below BK2.out hb)
  replace HB := Aside0.mk (below_step HB.out hb)
  clear hb
  have hz0 : w6.cell? ⟨g1, 0, none⟩ = some (.int .i64 a0) := (blk_cell BK1.out 0).trans rfl
  have hf0 := blk_frozen BK1.out 0
  have hz1 : w6.cell? ⟨g1, 1, none⟩ = some (.slice A1 l1.length c1) := (blk_cell BK1.out 1).trans rfl
  have hf1 := blk_frozen BK1.out 1
  have hz2 : w6.cell? ⟨g1, 2, none⟩ = some (.int .i64 a2) := (blk_cell BK1.out 2).trans rfl
  have hf2 := blk_frozen BK1.out 2
  have hz3 : w6.cell? ⟨g1, 3, none⟩ = some (.int .i64 a3) := (blk_cell BK1.out 3).trans rfl
  have hf3 := blk_frozen BK1.out 3
  have hz4 : w6.cell? ⟨g1, 4, none⟩ = some (.slice A4 l4.length c4) := (blk_cell BK1.out 4).trans rfl
  have hf4 := blk_frozen BK1.out 4
  obtain ⟨A6, c6, e6⟩ := Kd.N_slice HQ.out
  subst e6
  go_wp2_with (first | ((with_reducible refine gate_callee (f := 46) rfl ?_); refine hold_here ?_))
  refine hold_go ?_
  obtain ⟨rows, hrows⟩ : ∃ r : List (List Int), r = [[a0 % 256]] ++ l1 ++ l4 := ⟨_, rfl⟩
  have A45' := A45.out
  rw [← hrows] at A45'
  have A46 := Aside0.mk A45'
  clear A45 A45'
  refine goesL_ (some 24) rfl rfl Try.func46 (by kernel_rfl) rfl #[.slice (some ⟨w6.heap.size, 0, none⟩) 3 3] rfl (by (try simp only [List.map_toArray, List.map_cons, List.map_nil]); first | done | rfl) ?_
  refine (concat_calls w6.heap.size A6 A1 A4 c6 c1 c4 [[a0 % 256]] l1 l4 _ (blk_new _ _) (Kd.C_alloc (Kd.N_reads' HQ.out).2.2 _) (Kd.C_alloc (Kd.C_below HR1.out HB.out) _) (Kd.C_alloc (Kd.C_below HR4.out HB.out) _) (by have := HL.out; simp only [List.length_cons, List.length_nil]; omega)).mono ?_
  rintro e w7 ⟨v, rfl, hN_, hb⟩
  refine ⟨_, rfl, ?_⟩
  rw [← hrows] at hN_
  have HN := Aside0.mk hN_
  replace BK2 := Aside0.mk (blk_below (blk_alloc BK2.out _) hb)
  replace HB := Aside0.mk (below_step (below_alloc HB.out _) hb)
  clear hN_ hb hrows HQ BK1
  clear hz0 hf0 hz1 hf1 hz2 hf2 hz3 hf3 hz4 hf4
  obtain ⟨A7, c7, e7⟩ := Kd.N_slice HN.out
  subst e7
  go_wp2_with (first | ((with_reducible refine gate_callee (f := 45) rfl ?_); refine hold_here ?_))
  refine hold_go ?_
  refine goesL_ (some 25) rfl rfl Try.func45 (by kernel_rfl) rfl #[.slice A7 rows.length c7] rfl (by (try simp only [List.map_toArray, List.map_cons, List.map_nil]); first | done | rfl) ?_
  refine (impl_PackWords.calls k A7 c7 rows r1 r2 _ (Kd.N_reads' HN.out).2.2 (Kd.N_reads' HN.out).2.1 A46.out).mono ?_
  rintro e w8 ⟨v8, rfl, ho, hb⟩
  refine ⟨_, rfl, ?_⟩
  have HO := Aside0.mk (Kd.R_lower ho (below_size HB.out))
  clear ho HN A46
  replace BK2 := Aside0.mk (blk_below BK2.out hb)
  replace HB := Aside0.mk (below_step HB.out hb)
  clear hb
  obtain ⟨A8, c8, e8⟩ := Kd.R_slice HO.out
  subst e8
  have hy0 : w8.cell? ⟨g2, 0, none⟩ = some (.int .i64 0) := (blk_cell BK2.out 0).trans rfl
  have hy1 : w8.cell? ⟨g2, 1, none⟩ = some (.slice none 0 0) := (blk_cell BK2.out 1).trans rfl
  have he0 := blk_frozen BK2.out 0
  have he1 := blk_frozen BK2.out 1
  have hn_ := NE.out
  have hm_ := fun e => NE.out (Eq.symm e)
  go_wp2
  refine bodyPost_ret (results_cell_row rfl _ _ g2 42 #[.int .i64 r1, .slice A8 r2.length c8] (0, 0) _ rfl (by refine blk_put (cs := #[.int .i64 r1, .slice none 0 0]) ?_ 1 _ rfl; refine blk_put (cs := #[.int .i64 0, .slice none 0 0]) ?_ 0 _ rfl; exact BK2.out) Try.underlying42 rfl (by kernel_rfl)) rfl ?_
  exact ⟨_, rfl, Kd.R_mono (Kd.R_far (p := ⟨g2, 1, none⟩) (Kd.R_far (p := ⟨g2, 0, none⟩) (Kd.R_types HO.out BK2.out (by decide)) (fun _ hk => hk.2) (.int .i64 r1)) (fun _ hk => hk.2) (.slice A8 r2.length c8)) (fun _ hk => trivial), below_set (below_set HB.out GE2.out) GE2.out⟩
end Go.Proofs.Ytchmaojmknfbpaa.S

/- Signatures as bytes: what the program's PackSign and the reference's come to. For all that fit. -/
set_option linter.unusedVariables false
namespace Go.Proofs.Ytchmaojmknfbpaa.S
open Go Go.RowKit Go.Proofs.YtchmaojmknfbpaaW.PrintWords Go.Proofs.YtchmaojmknfbpaaW.PrintLast Go.Proofs.YtchmaojmknfbpaaW.PrintMore Go.Proofs.Ytchmaojmknfbpaa.Base
def PlacedS (a : Int) (ps : List (List Int)) (p n : Int) : Prop := (0 ≤ a ∧ a ≤ 3) ∧ ps.length = 19 ∧ p = a ∧ n = 4
instance (a : Int) (ps : List (List Int)) (p n : Int) : Decidable (PlacedS a ps p n) := by unfold PlacedS; infer_instance
theorem isPlaced_eq (a : Int) (ps : List (List Int)) (p n : Int) (ls : List (List Int)) : impl_Signature_isPlaced.f a ps p n ls = some (decide (PlacedS a ps p n)) := by
  unfold impl_Signature_isPlaced.f impl_isLeaf.f PlacedS
  rw [in_eq]
  by_cases h : 0 ≤ a ∧ a ≤ 3
  · by_cases h2 : ps.length = 19
    · by_cases h3 : p = a
      · by_cases h4 : n = 4 <;> simp [h, h2, h3, h4]
      · simp [h, h2, h3]
    · simp [h, h2]
      omega
  · simp [h]
/-- What is answered. -/
def packSignV (a : Int) (ps : List (List Int)) (p n : Int) (L : List Bool) (ls : List (List Int)) : Int × List Int :=
  if PlacedS a ps p n ∧ Right n p L ls then packWordsV ([[a % 256]] ++ ps ++ ls) else (1, [])
theorem spec_l4Right_ev (a : Int) (ps : List (List Int)) (p n : Int) (L : List Bool) (h : Placed n p → Ev (fun k => spec_l3Sides.f k n p) (L.map not)) (ls : List (List Int)) (hl : ls.length ≤ 2000000) : Ev (fun k => spec_l4Right.f k a ps p n ls) (decide (PlacedS a ps p n ∧ Right n p L ls)) := by
  unfold spec_l4Right.f PlacedS
  refine ev_bind (ev_now (l1In_eq _ _ _)) ?_
  by_cases h1 : 0 ≤ a ∧ a ≤ 3
  · refine ev_pos (decide_eq_true h1) ?_
    by_cases h2 : ps.length = 19
    · refine ev_pos (by omega) (ev_bind (spec_right_ev n p L h ls (by omega)) ?_)
      by_cases h5 : Right n p L ls
      · refine ev_pos (decide_eq_true h5) ?_
        by_cases h3 : p = a
        · refine ev_pos h3 (ev_eq (ev_now rfl) ?_)
          by_cases h4 : n = 4 <;> simp [h1, h2, h3, h4]
          subst h3 h4
          exact h5
        · exact ev_neg h3 (ev_eq (ev_now rfl) (by simp [h3]))
      · exact ev_neg (fun g => h5 (of_decide_eq_true g)) (ev_eq (ev_now rfl) (by simp [h5]))
    · exact ev_neg (by omega) (ev_eq (ev_now rfl) (by simp [h2]))
  · exact ev_neg (fun g => h1 (of_decide_eq_true g)) (ev_eq (ev_now rfl) (by simp only [h1, false_and]; rfl))
/-- The program's call, at every signature. -/
theorem packSign_impl (a : Int) (ps : List (List Int)) (p n : Int) (L : List Bool) (h : Placed n p → Ev (fun k => impl_sides.f k n p) L) (ls : List (List Int)) (hl : ps.length + ls.length ≤ 2000000) (hw : ∀ w ∈ ps, w.length ≤ 9000000000) (hw2 : ∀ w ∈ ls, w.length ≤ 9000000000) (A1 : Option Addr) (c1 : Nat) (A4 : Option Addr) (c4 : Nat) (W : World) (h1 : Kd.C (Kd.slice 5 (Kd.int .u8)) W A1 ps.length ps) (e1 : ps.length ≤ c1) (h4 : Kd.C (Kd.slice 5 (Kd.int .u8)) W A4 ls.length ls) (e4 : ls.length ≤ c4) :
    Calls Try.prog 18 #[.agg #[.int .i64 a, .slice A1 ps.length c1, .int .i64 p, .int .i64 n, .slice A4 ls.length c4]] W fun e w' => ∃ v1_ : Value, e = .returned (.agg #[.int .i64 (packSignV a ps p n L ls).1, v1_]) ∧ Kd.R (Kd.int .u8) 5 w' W.heap.size (fun _ => True) v1_ (packSignV a ps p n L ls).2 ∧ Below W.heap.size W w' := by
  unfold packSignV
  by_cases g1 : PlacedS a ps p n
  · have hp := isPlaced_eq a ps p n ls
    rw [decide_eq_true g1] at hp
    obtain ⟨kp, hq⟩ := (impl_isProof_ev n p L h ls).rounds
    by_cases g2 : Right n p L ls
    · rw [if_pos ⟨g1, g2⟩]
      have hev := impl_PackWords_ev (ws := [[a % 256]] ++ ps ++ ls) (fun w hm => by
        rcases List.mem_append.1 hm with hm | hm
        · rcases List.mem_append.1 hm with hm | hm
          · rw [List.mem_singleton.1 hm]; simp
          · have := hw w hm; omega
        · have := hw2 w hm; omega)
      have hboth : Ev (fun k => (impl_isProof.f k p n ls).bind fun b => (impl_PackWords.f k ([[a % 256]] ++ ps ++ ls)).bind fun r => some (b, r)) (true, packWordsV ([[a % 256]] ++ ps ++ ls)) := by
        have hq2 := impl_isProof_ev n p L h ls
        rw [decide_eq_true g2] at hq2
        exact ev_bind hq2 (ev_bind hev (ev_now rfl))
      obtain ⟨k, hk⟩ := hboth.rounds
      obtain ⟨b, hb, hk⟩ := Option.bind_eq_some_iff.1 hk
      obtain ⟨r, hr, hk⟩ := Option.bind_eq_some_iff.1 hk
      injection hk with hk
      injection hk with hk1 hk2
      subst hk1 hk2
      exact packSign_ok k a A1 c1 ps p n A4 c4 ls (packWordsV ([[a % 256]] ++ ps ++ ls)).1 (packWordsV ([[a % 256]] ++ ps ++ ls)).2 W h1 e1 h4 e4 hp hb (by omega) hr
    · rw [if_neg (fun h => g2 h.2)]
      rw [decide_eq_false g2] at hq
      exact packSign_bad kp a A1 c1 ps p n A4 c4 ls W h1 e1 h4 e4 hp hq
  · rw [if_neg (fun h => g1 h.1)]
    have hp := isPlaced_eq a ps p n ls
    rw [decide_eq_false g1] at hp
    exact packSign_no 0 a A1 c1 ps p n A4 c4 ls W h1 e1 h4 e4 hp
end Go.Proofs.Ytchmaojmknfbpaa.S

/- Steps of regions that draw their order: a box made, a struct stored, a whole array loaded; words that are read. No condition beyond those in the statements. -/
set_option linter.unusedVariables false
set_option linter.unusedSimpArgs false
namespace Go.Proofs.Ytchmaojmknfbpaa.S
open Go Go.RowKit Go.Proofs.YtchmaojmknfbpaaW.PrintWords Go.Proofs.YtchmaojmknfbpaaW.PrintLast Go.Proofs.YtchmaojmknfbpaaW.PrintMore Go.Proofs.Ytchmaojmknfbpaa.Base

theorem box_stepK {P : Program} {ops : Array Oper} {Q : Exit → Act → World → Prop} {oi : Oper} {N : Option Tmp} {a : Act} {W : World} {K : Act → World → Prop} {cs : Array Value} {t : TypeId} (hw : Region.wanted oi (yielded ops a.tmps) = true) (hN : oi.dst = N)
    (hrun : (execOp a.eval oi).run P W = .ok (.value (.pointer (some ⟨W.heap.size, 0, none⟩))) (W.alloc (.cells cs t (0, 0))))
    (h : ∀ g, g = W.heap.size → ∀ w1, w1.heap[g]? = some (.cells cs t (0, 0)) → Below W.heap.size W w1 → K (a.put N (.pointer (some ⟨g, 0, none⟩))) w1) : if Region.wanted oi (yielded ops a.tmps) = true then Oper.wp P oi a W K Q else K (a.put N undef) W :=
  value_ hw hN hrun (h _ rfl _ (blk_new W _) (below_alloc (Below.refl _ _) _))
theorem row_stepK {P : Program} {ops : Array Oper} {Q : Exit → Act → World → Prop} {o : Oper} {a : Act} {w w0 : World} {B : Nat} {K : Act → World → Prop} (hw : Region.wanted o (yielded ops a.tmps) = true) (ty : TypeId) (x y : Operand) (ho : o.op = .store ty x y)
    (g : Nat) (cells : Array Value) (hx : a.eval x = .pointer (some ⟨g, 0, none⟩)) (hy : a.eval y = .agg cells)
    (t : TypeId) (old : Array Value) (hg : w.heap[g]? = some (.cells old t (0, 0))) (hi : (P.info? ty).map (·.size) = some cells.size)
    (hold : old.size = cells.size) (h1 : cells.all (·.oneCell') = true) (hd : o.dst = none) (hb : Below B w0 w) (hB : B ≤ g)
    (h : ∀ w1 : World, w1.heap[g]? = some (.cells cells t (0, 0)) → Kept w w1 (In g (g + 1)) → Below B w0 w1 → K a w1) : if Region.wanted o (yielded ops a.tmps) = true then Oper.wp P o a w K Q else K (a.put none undef) w := by
  rw [if_pos hw]
  refine wp_store_row ty x y ho g cells hx hy t old hg hi hold h1 ?_
  rw [hd]
  exact h _ (setRow_heap w g old cells t (0, 0) hg) ⟨by simp [World.setRow], fun k hk hn => setRow_other w g k cells (fun e => hn (by subst e; exact ⟨Nat.le_refl _, Nat.lt_succ_self _⟩))⟩ (below_setRow hb hB cells)
theorem word_at {w : World} {A : Option Addr} {ls : List (List Int)} (h : Kd.C (Kd.slice 5 (Kd.int .u8)) w A ls.length ls) (i : Nat) (hi : i < ls.length) : ∃ ad A0 c0, A = some ad ∧ w.cell? (ad.add i) = some (.slice A0 (ls[i]!).length c0) ∧ (ls[i]!).length ≤ c0 ∧ (Kd.int .u8).C w A0 (ls[i]!).length (ls[i]!) := by
  rw [getElem!_pos ls i hi]
  obtain ⟨ad, c, e, _, hK, hc0⟩ := Kd.C_get h ([] : List Int) (i : Int) (by omega) (by omega)
  have hc : ∀ j u, c[j]? = some u → w.cell? (ad.add (i * 1 + j)) = some u := hc0
  rw [Int.toNat_natCast, List.getD_eq_getElem?_getD, List.getElem?_eq_getElem hi, Option.getD_some] at hK
  obtain ⟨A0, c0, rfl, l0, g0⟩ := hK
  exact ⟨ad, A0, c0, e, by have hq := hc 0 _ rfl; rwa [Nat.mul_one, Nat.add_zero] at hq, l0, g0⟩
theorem byte_at {w : World} {A : Option Addr} {n : Nat} {x : Int} (h : (Kd.int .u8).C w A n [x]) : ∃ ad, A = some ad ∧ w.cell? ad = some (.int .u8 x) := by
  have hn : n = 1 := h.1.symm
  subst hn
  obtain ⟨ad, e, hc⟩ := Kd.at_int h 0 (by omega) (by omega)
  exact ⟨ad, e, by have h2 : w.cell? (ad.add 0) = _ := hc; rw [Addr.add_zero'] at h2; exact h2⟩
theorem AR.lower {base base2 lo hi : Nat} {w : World} {A : Option Addr} {ls : List (List Int)} (h : AR base w lo hi A ls) (hb : base2 ≤ base) : AR base2 w lo hi A ls := by
  refine ⟨h.1, h.2.imp id ?_⟩
  rintro ⟨ad, vs, hA, hg, hr, hin, hap⟩
  exact ⟨ad, vs, hA, hg, fun i hi => ⟨(hr i hi).1, Kd.R_lower (hr i hi).2 hb⟩, hin, hap⟩
end Go.Proofs.Ytchmaojmknfbpaa.S

/- What the laws' marks make of rows of rows. No condition beyond those in the statements. -/
set_option linter.unusedVariables false
set_option linter.unusedSimpArgs false
namespace Go.Proofs.Ytchmaojmknfbpaa.S
open Go Go.RowKit Go.Proofs.YtchmaojmknfbpaaW.PrintWords Go.Proofs.YtchmaojmknfbpaaW.PrintLast Go.Proofs.YtchmaojmknfbpaaW.PrintMore Go.Proofs.Ytchmaojmknfbpaa.Base

/-! The marks. -/
def markAll (a : Int) : List (List Int) → List (List Int)
  | [] => []
  | l :: r => marked a l.length :: markAll (a + (l.length : Int)) r
theorem markAll_length : ∀ (ls : List (List Int)) (a : Int), (markAll a ls).length = ls.length
  | [], _ => rfl
  | l :: r, a => by simp [markAll, markAll_length r]
/-- Where row i's marks begin. -/
def offs (ls : List (List Int)) (i : Nat) : Nat := (ls.take i).flatten.length
theorem offs_step (ls : List (List Int)) (i : Nat) (h : i < ls.length) : offs ls (i + 1) = offs ls i + ls[i].length := by
  unfold offs
  rw [List.take_succ_eq_append_getElem h, List.flatten_append, List.length_append]
  simp
theorem offs_le (ls : List (List Int)) (i : Nat) : offs ls i ≤ ls.flatten.length := by
  unfold offs
  have h := congrArg List.length (congrArg List.flatten (List.take_append_drop i ls))
  rw [List.flatten_append, List.length_append] at h
  omega
theorem markAll_get : ∀ (ls : List (List Int)) (a : Int) (i : Nat) (h : i < ls.length), (markAll a ls)[i]? = some (marked (a + (offs ls i : Int)) ls[i].length)
  | [], _, i, h => by simp at h
  | l :: r, a, 0, h => by simp [markAll, offs]
  | l :: r, a, i + 1, h => by
    have h2 : i < r.length := by simpa using h
    have e : offs (l :: r) (i + 1) = l.length + offs r i := by simp [offs]
    show (markAll (a + (l.length : Int)) r)[i]? = _
    rw [markAll_get r (a + (l.length : Int)) i h2, e]
    simp only [List.getElem_cons_succ]
    rw [show a + (l.length : Int) + (offs r i : Int) = a + ((l.length + offs r i : Nat) : Int) by omega]
def midSS (a : Int) (ls : List (List Int)) (i : Nat) : List (List Int) := (markAll a ls).take i ++ ls.drop i
theorem midSS_length (a : Int) (ls : List (List Int)) (i : Nat) (h : i ≤ ls.length) : (midSS a ls i).length = ls.length := by
  simp [midSS, markAll_length]
  omega
theorem midSS_get (a : Int) (ls : List (List Int)) (i : Nat) (h : i < ls.length) : (midSS a ls i)[i]? = some ls[i] := by
  have hl : ((markAll a ls).take i).length = i := by rw [List.length_take, markAll_length]; omega
  unfold midSS
  rw [List.getElem?_append_right (by omega), hl, Nat.sub_self, List.getElem?_drop]
  simp [h]
theorem midSS_step (a : Int) (ls : List (List Int)) (i : Nat) (h : i < ls.length) : (midSS a ls i).set i (marked (a + (offs ls i : Int)) ls[i].length) = midSS a ls (i + 1) := by
  have hl : ((markAll a ls).take i).length = i := by rw [List.length_take, markAll_length]; omega
  have hg := markAll_get ls a i h
  have hlt : i < (markAll a ls).length := by rw [markAll_length]; exact h
  rw [List.getElem?_eq_getElem hlt] at hg
  have hg := Option.some.inj hg
  unfold midSS
  rw [List.set_append_right _ _ (by omega), hl, Nat.sub_self, List.drop_eq_getElem_cons h, List.set_cons_zero, List.take_succ_eq_append_getElem hlt, hg, List.append_assoc]
  rfl
theorem midSS_all (a : Int) (ls : List (List Int)) : midSS a ls ls.length = markAll a ls := by
  unfold midSS
  rw [List.take_of_length_le (by rw [markAll_length]; exact Nat.le_refl _), List.drop_of_length_le (Nat.le_refl _), List.append_nil]
end Go.Proofs.Ytchmaojmknfbpaa.S

/- The laws' mark of rows of rows: it writes these rows alone, place by place. No condition beyond those in the statement. -/
set_option linter.unusedVariables false
set_option linter.unusedSimpArgs false
namespace Go.Proofs.Ytchmaojmknfbpaa.S
open Go Go.RowKit Go.Proofs.YtchmaojmknfbpaaW.PrintWords Go.Proofs.YtchmaojmknfbpaaW.PrintLast Go.Proofs.YtchmaojmknfbpaaW.PrintMore Go.Proofs.Ytchmaojmknfbpaa.Base
attribute [local go_sem] max2_int min2_int max_two min_two max_three min_three max_four min_four

end Go.Proofs.Ytchmaojmknfbpaa.S

/- Two slices of rows of bytes of the call's own, no row of which shares memory with another; the laws' mark of one of them. No condition beyond those in the statements. -/
set_option linter.unusedVariables false
set_option linter.unusedSimpArgs false
namespace Go.Proofs.Ytchmaojmknfbpaa.S
open Go Go.RowKit Go.Proofs.YtchmaojmknfbpaaW.PrintWords Go.Proofs.YtchmaojmknfbpaaW.PrintLast Go.Proofs.YtchmaojmknfbpaaW.PrintMore Go.Proofs.Ytchmaojmknfbpaa.Base
attribute [local go_sem] max2_int min2_int max_two min_two max_three min_three max_four min_four

/-- Rows of bytes: their own memory in ok; the row of rows in none of bad. -/
def AK (base : Nat) (w : World) (lo hi : Nat) (ok bad : Nat → Prop) (A : Option Addr) (ls : List (List Int)) : Prop :=
  ls.length ≤ 9223372036854775807 ∧ (ls = [] ∨ ∃ (ad : Addr) (vs : Nat → Value), A = some ad ∧ ((lo ≤ ad.block ∧ ad.block < hi) ∧ ¬ bad ad.block) ∧
    (∀ i, (h : i < ls.length) → w.cell? (ad.add i) = some (vs i) ∧ Kd.R (Kd.int .u8) 5 w base (fun k => some k = (vs i).ownBlock) (vs i) ls[i]) ∧
    (∀ i k, i < ls.length → (vs i).ownBlock = some k → ok k) ∧
    (∀ i j k, i < ls.length → j < ls.length → i ≠ j → (vs i).ownBlock = some k → (vs j).ownBlock ≠ some k))
section
variable {base lo hi a b : Nat} {ok bad q : Nat → Prop} {w w1 : World} {A A1 A2 : Option Addr} {ls l1 l2 : List (List Int)}
theorem AK.below (h : AK base w lo hi ok bad A ls) (hb : Below w.heap.size w w1) : AK base w1 lo hi ok bad A ls := by
  refine ⟨h.1, h.2.imp id ?_⟩
  rintro ⟨ad, vs, hA, hg, hr, hin, hap⟩
  exact ⟨ad, vs, hA, hg, fun i hi => ⟨(hb.cell (World.block_lt_of_cell? w _ (hr i hi).1)).trans (hr i hi).1, Kd.R_below (hr i hi).2 hb⟩, hin, hap⟩
theorem AK.kept (h : AK base w lo hi ok bad A ls) (hk : Kept w w1 q) (h1 : ∀ k, ok k → ¬ q k) (h2 : ∀ k, lo ≤ k → k < hi → q k → bad k) : AK base w1 lo hi ok bad A ls := by
  refine ⟨h.1, h.2.imp id ?_⟩
  rintro ⟨ad, vs, hA, hg, hr, hin, hap⟩
  exact ⟨ad, vs, hA, hg, fun i hi => ⟨cell_kept (hr i hi).1 hk (by rw [add_block]; exact fun hq => hg.2 (h2 _ hg.1.1 hg.1.2 hq)), Kd.R_kept (hr i hi).2 hk (fun k hk2 => h1 k (hin i k hi hk2.symm))⟩, hin, hap⟩
theorem AK.ar (h : AK base w lo hi ok bad A ls) (h1 : ∀ k, ok k → (lo ≤ k ∧ k < hi) ∧ bad k) : AR base w lo hi A ls := by
  refine ⟨h.1, h.2.imp id ?_⟩
  rintro ⟨ad, vs, hA, hg, hr, hin, hap⟩
  exact ⟨ad, vs, hA, hg.1, hr, fun i k hi hk => ⟨(h1 k (hin i k hi hk)).1, fun e => hg.2 (e ▸ (h1 k (hin i k hi hk)).2)⟩, hap⟩
/-- Two slices of rows: no row of the one is one of the other, and no row lies where one of the slices does. -/
def SG (base : Nat) (w : World) (lo hi : Nat) (A1 : Option Addr) (l1 : List (List Int)) (A2 : Option Addr) (l2 : List (List Int)) : Prop :=
  ∃ ok1 ok2 : Nat → Prop, (∀ k, ok1 k → (lo ≤ k ∧ k < hi) ∧ ¬ ok2 k) ∧ (∀ k, ok2 k → (lo ≤ k ∧ k < hi) ∧ ¬ ok1 k) ∧ AK base w lo hi ok1 (fun k => ok1 k ∨ ok2 k) A1 l1 ∧ AK base w lo hi ok2 (fun k => ok1 k ∨ ok2 k) A2 l2
theorem SG.below (h : SG base w lo hi A1 l1 A2 l2) (hb : Below w.heap.size w w1) : SG base w1 lo hi A1 l1 A2 l2 := by
  obtain ⟨o1, o2, h1, h2, h3, h4⟩ := h
  exact ⟨o1, o2, h1, h2, h3.below hb, h4.below hb⟩
theorem SG.kept (h : SG base w lo hi A1 l1 A2 l2) (hk : Kept w w1 (In a b)) (hd : hi ≤ a ∨ b ≤ lo) : SG base w1 lo hi A1 l1 A2 l2 := by
  obtain ⟨o1, o2, h1, h2, h3, h4⟩ := h
  have e : ∀ k, lo ≤ k → k < hi → In a b k → o1 k ∨ o2 k := fun k a1 a2 a3 => absurd a3 (In_apart hd k ⟨a1, a2⟩)
  exact ⟨o1, o2, h1, h2, h3.kept hk (fun k ho => In_apart hd k (h1 k ho).1) e, h4.kept hk (fun k ho => In_apart hd k (h2 k ho).1) e⟩
theorem SG.drew (h : SG base w lo hi A1 l1 A2 l2) : SG base w.drew lo hi A1 l1 A2 l2 := h.below (below_drew1 (Below.refl _ _))
theorem SG.ar1 (h : SG base w lo hi A1 l1 A2 l2) : AR base w lo hi A1 l1 := by
  obtain ⟨o1, o2, h1, h2, h3, h4⟩ := h
  exact h3.ar (fun k hk => ⟨(h1 k hk).1, .inl hk⟩)
theorem SG.ar2 (h : SG base w lo hi A1 l1 A2 l2) : AR base w lo hi A2 l2 := by
  obtain ⟨o1, o2, h1, h2, h3, h4⟩ := h
  exact h4.ar (fun k hk => ⟨(h2 k hk).1, .inr hk⟩)
theorem SG.grow (h : SG base w lo hi A1 l1 A2 l2) {lo2 hi2 : Nat} (ha : lo2 ≤ lo) (hb : hi ≤ hi2) : SG base w lo2 hi2 A1 l1 A2 l2 := by
  obtain ⟨o1, o2, h1, h2, h3, h4⟩ := h
  have g : ∀ {ok bad : Nat → Prop} {A : Option Addr} {ls : List (List Int)}, AK base w lo hi ok bad A ls → AK base w lo2 hi2 ok bad A ls := fun h => by
    refine ⟨h.1, h.2.imp id ?_⟩
    rintro ⟨ad, vs, hA, hg, hr, hin, hap⟩
    exact ⟨ad, vs, hA, ⟨⟨by have := hg.1; omega, by have := hg.1; omega⟩, hg.2⟩, hr, hin, hap⟩
  exact ⟨o1, o2, fun k hk => ⟨by have := (h1 k hk).1; omega, (h1 k hk).2⟩, fun k hk => ⟨by have := (h2 k hk).1; omega, (h2 k hk).2⟩, g h3, g h4⟩
theorem add_add (ad : Addr) (m i : Nat) : (ad.add m).add i = ad.add (m + i) := by
  unfold Addr.add
  by_cases h1 : m = 0 <;> by_cases h2 : i = 0 <;> simp [h1, h2, Nat.add_assoc]
/-- Two cuts of one slice, one behind the other. -/
theorem SG.cuts (h : AR base w lo hi A ls) (i j c : Nat) (hij : i ≤ j) (hj : j ≤ ls.length) (hc : ls.length ≤ c) : SG base w lo hi (if c = i then A else A.map (·.add i)) ((ls.take j).drop i) (if c = j then A else A.map (·.add j)) (ls.drop j) := by
  have hlen := h.1
  have e1 : ((ls.take j).drop i).length = j - i := by rw [List.length_drop, List.length_take]; omega
  have e2 : (ls.drop j).length = ls.length - j := by rw [List.length_drop]
  rcases h.2 with rfl | ⟨ad, vs, rfl, hg, hr, hin, hap⟩
  · refine ⟨fun _ => False, fun _ => False, fun _ h => h.elim, fun _ h => h.elim, ⟨by simp, .inl (by simp)⟩, ⟨by simp, .inl (by simp)⟩⟩
  refine ⟨fun k => ∃ q, (i ≤ q ∧ q < j) ∧ (vs q).ownBlock = some k, fun k => ∃ q, (j ≤ q ∧ q < ls.length) ∧ (vs q).ownBlock = some k, ?_, ?_, ⟨by omega, ?_⟩, ⟨by omega, ?_⟩⟩
  · rintro k ⟨q, hq, hk⟩
    refine ⟨(hin q k (by omega) hk).1, ?_⟩
    rintro ⟨q2, hq2, hk2⟩
    exact hap q q2 k (by omega) (by omega) (by omega) hk hk2
  · rintro k ⟨q, hq, hk⟩
    refine ⟨(hin q k (by omega) hk).1, ?_⟩
    rintro ⟨q2, hq2, hk2⟩
    exact hap q q2 k (by omega) (by omega) (by omega) hk hk2
  · by_cases hz : i = j
    · exact .inl (List.eq_nil_of_length_eq_zero (by omega))
    refine .inr ⟨ad.add i, fun q => vs (i + q), by rw [if_neg (by omega)]; rfl, ⟨by rw [add_block]; exact hg, ?_⟩, fun q hq => ?_, fun q k hq hk => ⟨i + q, by omega, hk⟩, fun q q2 k hq hq2 hne hk => hap (i + q) (i + q2) k (by omega) (by omega) (by omega) hk⟩
    · rw [add_block]
      rintro (⟨q, hq, hk⟩ | ⟨q, hq, hk⟩)
      · exact (hin q _ (by omega) hk).2 rfl
      · exact (hin q _ (by omega) hk).2 rfl
    · obtain ⟨h1, h2⟩ := hr (i + q) (by omega)
      refine ⟨by rw [add_add]; exact h1, ?_⟩
      rw [List.getElem_drop, List.getElem_take]
      exact h2
  · by_cases hz : j = ls.length
    · exact .inl (List.eq_nil_of_length_eq_zero (by omega))
    refine .inr ⟨ad.add j, fun q => vs (j + q), by rw [if_neg (by omega)]; rfl, ⟨by rw [add_block]; exact hg, ?_⟩, fun q hq => ?_, fun q k hq hk => ⟨j + q, by omega, hk⟩, fun q q2 k hq hq2 hne hk => hap (j + q) (j + q2) k (by omega) (by omega) (by omega) hk⟩
    · rw [add_block]
      rintro (⟨q, hq, hk⟩ | ⟨q, hq, hk⟩)
      · exact (hin q _ (by omega) hk).2 rfl
      · exact (hin q _ (by omega) hk).2 rfl
    · obtain ⟨h1, h2⟩ := hr (j + q) (by omega)
      refine ⟨by rw [add_add]; exact h1, ?_⟩
      rw [List.getElem_drop]
      exact h2
theorem SG.nil (base : Nat) (w : World) (lo hi : Nat) (A1 A2 : Option Addr) : SG base w lo hi A1 [] A2 [] := ⟨fun _ => False, fun _ => False, fun _ h => h.elim, fun _ h => h.elim, ⟨by simp, .inl rfl⟩, ⟨by simp, .inl rfl⟩⟩
theorem AK.lower {b2 : Nat} (h : AK base w lo hi ok bad A ls) (hb : b2 ≤ base) : AK b2 w lo hi ok bad A ls := by
  refine ⟨h.1, h.2.imp id ?_⟩
  rintro ⟨ad, vs, hA, hg, hr, hin, hap⟩
  exact ⟨ad, vs, hA, hg, fun i hi => ⟨(hr i hi).1, Kd.R_lower (hr i hi).2 hb⟩, hin, hap⟩
theorem SG.lower {b2 : Nat} (h : SG base w lo hi A1 l1 A2 l2) (hb : b2 ≤ base) : SG b2 w lo hi A1 l1 A2 l2 := by
  obtain ⟨o1, o2, h1, h2, h3, h4⟩ := h
  exact ⟨o1, o2, h1, h2, h3.lower hb, h4.lower hb⟩
end
theorem AK.put {base : Nat} {w w1 : World} {ad : Addr} {vs : Nat → Value} {ls : List (List Int)} {i : Nat} {l2 : List Int}
    (hr : ∀ i, (h : i < ls.length) → w.cell? (ad.add i) = some (vs i) ∧ Kd.R (Kd.int .u8) 5 w base (fun k => some k = (vs i).ownBlock) (vs i) ls[i])
    (hin : ∀ i k, i < ls.length → (vs i).ownBlock = some k → k ≠ ad.block)
    (hap : ∀ i j k, i < ls.length → j < ls.length → i ≠ j → (vs i).ownBlock = some k → (vs j).ownBlock ≠ some k)
    (hi_ : i < ls.length) (h2 : Kd.R (Kd.int .u8) 5 w1 base (fun k => some k = (vs i).ownBlock) (vs i) l2) (hk : Kept w w1 (fun k => some k = (vs i).ownBlock)) :
    (∀ j, (h : j < (ls.set i l2).length) → w1.cell? (ad.add j) = some (vs j) ∧ Kd.R (Kd.int .u8) 5 w1 base (fun k => some k = (vs j).ownBlock) (vs j) (ls.set i l2)[j]) := by
  intro j hj
  have hj2 : j < ls.length := by simpa using hj
  obtain ⟨hc, hR⟩ := hr j hj2
  refine ⟨cell_kept hc hk (by rw [add_block]; exact fun e => hin i _ hi_ e.symm rfl), ?_⟩
  rw [List.getElem_set]
  split
  · rename_i e
    subst e
    exact h2
  · rename_i e
    exact Kd.R_kept hR hk (fun k hk1 hk2 => hap i j k hi_ hj2 e hk2.symm hk1.symm)

set_option maxHeartbeats 8000000 in
set_option maxRecDepth 100000 in
theorem markAK_calls (ls : List (List Int)) (a : Int) (h0 : 0 ≤ a) (h1 : a + (ls.flatten.length : Int) ≤ 4611686018427387904) (w0 w : World) (lo hi : Nat) (ok bad : Nat → Prop) (hob : ∀ k, ok k → bad k) (A : Option Addr) (c : Nat) (hB : Below w0.heap.size w0 w) (hA : AK w0.heap.size w lo hi ok bad A ls) (hc : ls.length ≤ c) (hl : ls.length ≤ 1000000000) :
    Calls Try.prog 49 #[.slice A ls.length c, .int .i64 a] w fun e w' => e = .returned (.int .i64 (a + (ls.flatten.length : Int))) ∧ AK w0.heap.size w' lo hi ok bad A (markAll a ls) ∧ Below w0.heap.size w0 w' ∧ Kept w w' ok := by
  rcases hA with ⟨hlen, rfl | ⟨ad, vs, rfl, hg, hr, hin, hap⟩⟩
  · have HB := Aside0.mk hB
    have e0 : a + (([] : List (List Int)).flatten.length : Int) = a := by simp
    rw [e0]
    clear hB
    go_enter Try.func49, Try.ntmps49
    go_wp2
    go_loopg [1, 5] 0 (fun kq v1 v5 w' => v1 = .int .i64 a ∧ v5 = .int .i64 0 ∧ w' = w)
    case atStart => exact ⟨rfl, rfl, rfl⟩
    case round =>
      obtain ⟨rfl, rfl, rfl⟩ := hrel
      go_wp2
      go_ret
      exact ⟨rfl, (⟨by simp [markAll], .inl rfl⟩ : AK _ _ _ _ _ _ _ _), HB.out, Kept.refl _ _⟩
  · have HI := Aside0.mk (show ∀ i k, i < ls.length → (vs i).ownBlock = some k → ok k ∧ k ≠ ad.block from fun i k hi hk => ⟨hin i k hi hk, fun e => hg.2 (e ▸ hob k (hin i k hi hk))⟩)
    have HP := Aside0.mk hap
    have HG := Aside0.mk hg
    have HN := Aside0.mk hlen
    have HL := Aside0.mk hl
    have H0 := Aside0.mk h0
    have H1 := Aside0.mk h1
    have HB := Aside0.mk hB
    have HR := Aside0.mk (show ∀ i, (h : i < (midSS a ls 0).length) → w.cell? (ad.add i) = some (vs i) ∧ Kd.R (Kd.int .u8) 5 w w0.heap.size (fun k => some k = (vs i).ownBlock) (vs i) (midSS a ls 0)[i] from hr)
    have HK := Aside0.mk (Kept.refl w ok)
    clear hin hap hg hlen hl h0 h1 hB hr hc
    go_enter Try.func49, Try.ntmps49
    go_wp2
    go_loopg [1, 5] ls.length (fun kq v1 v5 w' => ∃ i : Nat, v5 = .int .i64 (i : Int) ∧ v1 = .int .i64 (a + (offs ls i : Int)) ∧ Aside0 (i + kq = ls.length) ∧ Aside0 (∀ j, (h : j < (midSS a ls i).length) → w'.cell? (ad.add j) = some (vs j) ∧ Kd.R (Kd.int .u8) 5 w' w0.heap.size (fun k => some k = (vs j).ownBlock) (vs j) (midSS a ls i)[j]) ∧ Aside0 (Below w0.heap.size w0 w') ∧ Aside0 (Kept w w' ok))
    case atStart => exact ⟨0, rfl, by simp [offs], ⟨by omega⟩, HR, HB, HK⟩
    case round =>
      clear HR HB HK
      obtain ⟨i, rfl, rfl, HJ, HR, HB, HK⟩ := hrel
      cases gk with
      | zero =>
        have e := HJ.out
        obtain rfl : i = ls.length := by omega
        have e1 : offs ls ls.length = ls.flatten.length := by unfold offs; rw [List.take_of_length_le (Nat.le_refl _)]
        rw [e1]
        have HA := Aside0.mk (show AK w0.heap.size wr lo hi ok bad (some ad) (markAll a ls) from ⟨by rw [markAll_length]; exact HN.out, .inr ⟨ad, vs, rfl, HG.out, fun j hj => by
          have := HR.out j (by rw [midSS_all]; exact hj)
          simp only [midSS_all] at this
          exact this, fun j k hj hk => (HI.out j k (by rw [markAll_length] at hj; exact hj) hk).1, fun j j2 k hj hj2 hne hk => HP.out j j2 k (by rw [markAll_length] at hj; exact hj) (by rw [markAll_length] at hj2; exact hj2) hne hk⟩⟩)
        have c1_ : decide ((ls.length : Int) < (ls.length : Int)) = false := decide_eq_false (by omega)
        clear e HR
        go_wp2
        go_ret
        exact ⟨rfl, HA.out, HB.out, HK.out⟩
      | succ k1 =>
        have e := HJ.out
        have hlt : i < ls.length := by omega
        have hll := HL.out
        have c1_ : decide ((i : Int) < (ls.length : Int)) = true := decide_eq_true (by omega)
        have p0 : (0 ≤ (i : Int)) = True := eq_true (by omega)
        have p1 : ((i : Int) < (ls.length : Int)) = True := eq_true (by omega)
        have hml := midSS_length a ls i (by omega)
        obtain ⟨hx, hRi⟩ := HR.out i (by omega)
        have hgi := midSS_get a ls i hlt
        rw [List.getElem?_eq_getElem (show i < (midSS a ls i).length by omega)] at hgi
        rw [Option.some.inj hgi] at hRi
        have ho := offs_step ls i hlt
        have hst := midSS_step a ls i hlt
        obtain ⟨row, hrow⟩ : ∃ r, r = ls[i] := ⟨_, rfl⟩
        rw [← hrow] at hRi ho hst
        have hol := offs_le ls (i + 1)
        have H0' := H0.out
        have H1' := H1.out
        obtain ⟨km, hkm⟩ := (markByteS_ev row (a + (offs ls i : Int)) (by omega) (by omega)).rounds
        have HM := Aside0.mk hkm
        have HRi := Aside0.mk hRi
        have HO := Aside0.mk (show a + (offs ls i : Int) + (row.length : Int) = a + (offs ls (i + 1) : Int) by omega)
        have HS := Aside0.mk hst
        have HML := Aside0.mk hml
        have HLT := Aside0.mk hlt
        clear hkm hRi e hll hml hgi ho hol H0' H1' hst hrow hlt
        go_wp2_with (first | (go_at_call 12; refine (laws_markByteS.calls km (fun k => some k = (vs i).ownBlock) (vs i) row _ _ _ w0 _ HB.out HRi.out HM.out).mono ?_; rintro e w1 ⟨rfl, hR1, hb1, hk1⟩; have HR1 := Aside0.mk hR1; have HB1 := Aside0.mk hb1; have HK1 := Aside0.mk hk1; clear hR1 hb1 hk1))
        rw [HO.out]
        have HK2 := Aside0.mk (show Kept w w1 ok from HK.out.then_ HK1.out (fun k hk => .inl (HI.out i k HLT.out hk.symm).1))
        have HR2 := Aside0.mk (AK.put HR.out (fun j k hj hk => (HI.out j k (by rw [← HML.out]; exact hj) hk).2) (fun j j2 k hj hj2 hne hk => HP.out j j2 k (by rw [← HML.out]; exact hj) (by rw [← HML.out]; exact hj2) hne hk) (by rw [HML.out]; exact HLT.out) (Kd.R_tight rfl HR1.out) HK1.out)
        have HR3 := Aside0.mk (show ∀ j, (h : j < (midSS a ls (i + 1)).length) → w1.cell? (ad.add j) = some (vs j) ∧ Kd.R (Kd.int .u8) 5 w1 w0.heap.size (fun k => some k = (vs j).ownBlock) (vs j) (midSS a ls (i + 1))[j] from by
          have h := HR2.out
          simp only [HS.out] at h
          exact h)
        clear hx HR HR1 HR2 HB HK HK1 HRi
        go_roundg k1
        case measure => have := HJ.out; omega
        case rel => exact ⟨i + 1, by first | rfl | (rw [w64s (by have := HJ.out; have := HL.out; omega)]), rfl, ⟨by have := HJ.out; omega⟩, HR3, HB1, HK2⟩

/-- The mark of a signature's parts, and of its path behind them. -/
theorem markSG1_calls (l1 l2 : List (List Int)) (a : Int) (h0 : 0 ≤ a) (n : Nat) (hn : l1.flatten.length = n) (h1 : a + (n : Int) ≤ 4611686018427387904) (w0 w : World) (lo hi : Nat) (A1 A2 : Option Addr) (c : Nat) (hB : Below w0.heap.size w0 w) (hA : SG w0.heap.size w lo hi A1 l1 A2 l2) (hc : l1.length ≤ c) (hl : l1.length ≤ 1000000000) :
    Calls Try.prog 49 #[.slice A1 l1.length c, .int .i64 a] w fun e w' => e = .returned (.int .i64 (a + (n : Int))) ∧ SG w0.heap.size w' lo hi A1 (markAll a l1) A2 l2 ∧ Below w0.heap.size w0 w' ∧ Kept w w' (In lo hi) := by
  subst hn
  obtain ⟨o1, o2, g1, g2, g3, g4⟩ := hA
  refine (markAK_calls l1 a h0 h1 w0 w lo hi o1 _ (fun k hk => .inl hk) A1 c hB g3 hc hl).mono fun e w' h => ?_
  obtain ⟨rfl, ha, hb, hk⟩ := h
  exact ⟨rfl, ⟨o1, o2, g1, g2, ha, g4.kept hk (fun k ho => (g2 k ho).2) (fun k _ _ hq => .inl hq)⟩, hb, hk.mono (fun k ho => (g1 k ho).1)⟩
theorem markSG2_calls (l1 l2 : List (List Int)) (a : Int) (h0 : 0 ≤ a) (n : Nat) (hn : l2.flatten.length = n) (h1 : a + (n : Int) ≤ 4611686018427387904) (w0 w : World) (lo hi : Nat) (A1 A2 : Option Addr) (c : Nat) (hB : Below w0.heap.size w0 w) (hA : SG w0.heap.size w lo hi A1 l1 A2 l2) (hc : l2.length ≤ c) (hl : l2.length ≤ 1000000000) :
    Calls Try.prog 49 #[.slice A2 l2.length c, .int .i64 a] w fun e w' => e = .returned (.int .i64 (a + (n : Int))) ∧ SG w0.heap.size w' lo hi A1 l1 A2 (markAll a l2) ∧ Below w0.heap.size w0 w' ∧ Kept w w' (In lo hi) := by
  subst hn
  obtain ⟨o1, o2, g1, g2, g3, g4⟩ := hA
  refine (markAK_calls l2 a h0 h1 w0 w lo hi o2 _ (fun k hk => .inr hk) A2 c hB g4 hc hl).mono fun e w' h => ?_
  obtain ⟨rfl, ha, hb, hk⟩ := h
  exact ⟨rfl, ⟨o1, o2, g1, g2, g3.kept hk (fun k ho => (g1 k ho).2) (fun k _ _ hq => .inr hq), ha⟩, hb, hk.mono (fun k ho => (g2 k ho).1)⟩

end Go.Proofs.Ytchmaojmknfbpaa.S

/- The walk over impl.UnpackSign: what it answers, way by way. No condition beyond those in the statements. -/
set_option linter.unusedVariables false
set_option linter.unusedSimpArgs false
namespace Go.Proofs.Ytchmaojmknfbpaa.S
open Go Go.RowKit Go.Proofs.YtchmaojmknfbpaaW.PrintWords Go.Proofs.YtchmaojmknfbpaaW.PrintLast Go.Proofs.YtchmaojmknfbpaaW.PrintMore Go.Proofs.Ytchmaojmknfbpaa.Base
attribute [local go_sem] max2_int min2_int max_two min_two max_three min_three max_four min_four

set_option maxHeartbeats 80000000 in
set_option maxRecDepth 100000 in
theorem impl_UnpackSign_A (ku : Nat) (A0 : Option Addr) (c0 : Nat) (l0 : List Int) (q0 q1 : Int) (W : List (List Int)) (w : World) (hr0 : Kd.C (Kd.int .u8) w A0 l0.length l0) (hc0 : l0.length ≤ c0) (h_u : impl_UnpackWords.f ku l0 = some (q0, q1, W)) (h_n : W.length < 20) :
    Calls Try.prog 25 #[.slice A0 l0.length c0] w (fun e w' => ∃ A c B d, e = .returned (.agg #[.int .i64 5, .int .i64 0, .slice A ([] : List (List Int)).length c, .int .i64 0, .int .i64 0, .slice B ([] : List (List Int)).length d]) ∧ ([] : List (List Int)).length ≤ c ∧ ([] : List (List Int)).length ≤ d ∧ SG w.heap.size w' w.heap.size w'.heap.size A ([] : List (List Int)) B ([] : List (List Int)) ∧ Below w.heap.size w w') := by
  have hu1_ := Try.underlying29
  have hu2_ := Try.underlying25
  have hu3_ := Try.underlying72
  have hu4_ := Try.underlying27
  have HR0 := Aside0.mk hr0
  have HC0 := Aside0.mk hc0
  have H_u := Aside0.mk h_u
  have H_n := Aside0.mk h_n
  have HB := Aside0.mk (Below.refl w.heap.size w)
  have ZZ := Aside0.mk (Nat.le_refl w.heap.size)
  have hfd_2 := fun (a0 a1 a2 : Value) (w : World) => (show (Instr.field 72 (.agg #[a0, a1, a2]) 2).run Try.prog w = .ok a2 w from by kernel_rfl)
  have cn0_ : decide ((W.length : Int) < 20) = true := decide_eq_true (by omega)
  have cn1_ : decide (W.length < 20) = true := decide_eq_true h_n
  clear hr0 hc0 h_u h_n
  go_enter Try.func25, Try.ntmps25
  go_wp2_with (first | ((with_reducible refine gate_dst (N := 2) rfl ?_); refine hold_here ?_))
  refine hold_go ?_
  refine box_event (N := 2) (cs := #[.int .i64 0, .int .i64 0, .slice none 0 0, .int .i64 0, .int .i64 0, .slice none 0 0]) (t := 29) ?hgb rfl ?hrb ?_
  case hgb => rfl
  case hrb => first | (go_simp; done) | (go_simp; rfl)
  intro g2_ hg w1_ hbox hb
  replace HB := Aside0.mk (below_step HB.out hb)
  replace ZZ := Aside0.mk (And.intro ZZ.out (show w.heap.size ≤ w1_.heap.size from hb.size))
  have BK2 := Aside0.mk hbox
  replace ZZ := Aside0.mk (And.intro ZZ.out (And.intro (show g2_ = w.heap.size from hg) (show g2_ < w1_.heap.size from blk_lt hbox)))
  clear hb hbox hg
  go_wp2_with (first | (go_at_call 53; refine hold_here ?_))
  refine hold_go ?_
  refine (impl_UnpackWords.calls _ A0 c0 l0 q0 q1 W _ ?s1 ?s2 H_u.out).mono ?_
  case s1 => exact Kd.C_below HR0.out HB.out
  case s2 => exact HC0.out
  rintro e w2_ ⟨v, rfl, ho, hb⟩
  replace BK2 := Aside0.mk (blk_below BK2.out hb)
  replace HB := Aside0.mk (below_step HB.out hb)
  replace ZZ := Aside0.mk (And.intro ZZ.out (show w1_.heap.size ≤ w2_.heap.size from hb.size))
  obtain ⟨A_WS, c_WS, ev_, hc_WS, hA_WS⟩ := AR_of_S (base := w.heap.size) ho (show w.heap.size ≤ w1_.heap.size from (by have h_ := ZZ.out; omega))
  subst ev_
  have HC_WS := Aside0.mk hc_WS
  have WS := Aside0.mk (show AR w.heap.size w2_ w1_.heap.size w2_.heap.size A_WS W from hA_WS)
  clear hc_WS hA_WS ho
  clear hb
  go_wp2_with (first | ((with_reducible refine gate_store (t := 29) (p := 2) (v := .tmp 19) rfl ?_); refine hold_here ?_))
  refine hold_go ?_
  refine row_store rfl 29 (.tmp 2) (.tmp 19) rfl g2_ #[.int .i64 5, .int .i64 0, .slice none 0 0, .int .i64 0, .int .i64 0, .slice none 0 0] rfl ?hy 29 _ BK2.out ?hi ?ho ?h1 rfl HB.out (show w.heap.size ≤ g2_ from (by have h_ := ZZ.out; omega)) ?_
  case hy => rfl
  case hi => kernel_rfl
  case ho => rfl
  case h1 => first | rfl | (simp [Value.oneCell']; done) | (go_simp; done)
  intro w3_ bo hk hb2
  clear BK2
  replace WS := Aside0.mk (AR.kept WS.out hk (by have h_ := ZZ.out; omega))
  replace HB := Aside0.mk hb2
  replace ZZ := Aside0.mk (And.intro ZZ.out (show w2_.heap.size ≤ w3_.heap.size from hk.1))
  have BK2 := Aside0.mk bo
  clear bo hk hb2
  go_wp2
  refine bodyPost_ret (results_cell_row rfl _ _ g2_ 29 #[.int .i64 5, .int .i64 0, .slice none 0 0, .int .i64 0, .int .i64 0, .slice none 0 0] (0, 0) _ rfl BK2.out Try.underlying29 rfl (by kernel_rfl)) rfl ?_
  exact ⟨none, 0, none, 0, rfl, Nat.le_refl _, Nat.le_refl _, SG.nil _ _ _ _ _ _, HB.out⟩
set_option maxHeartbeats 80000000 in
set_option maxRecDepth 100000 in
theorem impl_UnpackSign_B (ku : Nat) (A0 : Option Addr) (c0 : Nat) (l0 : List Int) (q0 q1 : Int) (W : List (List Int)) (w : World) (hr0 : Kd.C (Kd.int .u8) w A0 l0.length l0) (hc0 : l0.length ≤ c0) (h_u : impl_UnpackWords.f ku l0 = some (q0, q1, W)) (h_n : 20 ≤ W.length) (h_b : W[0]!.length ≠ 1) :
    Calls Try.prog 25 #[.slice A0 l0.length c0] w (fun e w' => ∃ A c B d, e = .returned (.agg #[.int .i64 5, .int .i64 0, .slice A ([] : List (List Int)).length c, .int .i64 0, .int .i64 0, .slice B ([] : List (List Int)).length d]) ∧ ([] : List (List Int)).length ≤ c ∧ ([] : List (List Int)).length ≤ d ∧ SG w.heap.size w' w.heap.size w'.heap.size A ([] : List (List Int)) B ([] : List (List Int)) ∧ Below w.heap.size w w') := by
  have hu1_ := Try.underlying29
  have hu2_ := Try.underlying25
  have hu3_ := Try.underlying72
  have hu4_ := Try.underlying27
  have HR0 := Aside0.mk hr0
  have HC0 := Aside0.mk hc0
  have H_u := Aside0.mk h_u
  have H_n := Aside0.mk h_n
  have H_b := Aside0.mk h_b
  have HB := Aside0.mk (Below.refl w.heap.size w)
  have ZZ := Aside0.mk (Nat.le_refl w.heap.size)
  have hfd_2 := fun (a0 a1 a2 : Value) (w : World) => (show (Instr.field 72 (.agg #[a0, a1, a2]) 2).run Try.prog w = .ok a2 w from by kernel_rfl)
  have cn0_ : decide ((W.length : Int) < 20) = false := decide_eq_false (by omega)
  have cn1_ : decide (W.length < 20) = false := decide_eq_false (by omega)
  have cn2_ : (0 < W.length) = True := eq_true (by omega)
  have cn4_ : ((0 : Int) < (W.length : Int)) = True := eq_true (by omega)
  have cn6_ : ((20 : Int) ≤ (W.length : Int)) = True := eq_true (by omega)
  have cn7_ : (20 ≤ W.length) = True := eq_true (by omega)
  clear hr0 hc0 h_u h_n h_b
  go_enter Try.func25, Try.ntmps25
  go_wp2_with (first | ((with_reducible refine gate_dst (N := 2) rfl ?_); refine hold_here ?_))
  refine hold_go ?_
  refine box_event (N := 2) (cs := #[.int .i64 0, .int .i64 0, .slice none 0 0, .int .i64 0, .int .i64 0, .slice none 0 0]) (t := 29) ?hgb rfl ?hrb ?_
  case hgb => rfl
  case hrb => first | (go_simp; done) | (go_simp; rfl)
  intro g2_ hg w1_ hbox hb
  replace HB := Aside0.mk (below_step HB.out hb)
  replace ZZ := Aside0.mk (And.intro ZZ.out (show w.heap.size ≤ w1_.heap.size from hb.size))
  have BK2 := Aside0.mk hbox
  replace ZZ := Aside0.mk (And.intro ZZ.out (And.intro (show g2_ = w.heap.size from hg) (show g2_ < w1_.heap.size from blk_lt hbox)))
  clear hb hbox hg
  go_wp2_with (first | (go_at_call 53; refine hold_here ?_))
  refine hold_go ?_
  refine (impl_UnpackWords.calls _ A0 c0 l0 q0 q1 W _ ?s1 ?s2 H_u.out).mono ?_
  case s1 => exact Kd.C_below HR0.out HB.out
  case s2 => exact HC0.out
  rintro e w2_ ⟨v, rfl, ho, hb⟩
  replace BK2 := Aside0.mk (blk_below BK2.out hb)
  replace HB := Aside0.mk (below_step HB.out hb)
  replace ZZ := Aside0.mk (And.intro ZZ.out (show w1_.heap.size ≤ w2_.heap.size from hb.size))
  have hfo_ := Kd.S_form ho (by have := H_n.out; omega)
  obtain ⟨A_WS, c_WS, ev_, hc_WS, hA_WS⟩ := AR_of_S (base := w.heap.size) ho (show w.heap.size ≤ w1_.heap.size from (by have h_ := ZZ.out; omega))
  subst ev_
  have HC_WS := Aside0.mk hc_WS
  have WS := Aside0.mk (show AR w.heap.size w2_ w1_.heap.size w2_.heap.size A_WS W from hA_WS)
  clear hc_WS hA_WS ho
  obtain ⟨gw_, cw_, evw_, _⟩ := hfo_
  injection evw_ with eA_ _ eC_
  subst eA_ eC_
  clear hb
  obtain ⟨ad_, B0_, d0_, eA_, hx0_, hl0_, hi0_⟩ := word_at (Kd.F_now (AR.foot WS.out)) 0 (by have := H_n.out; omega)
  obtain rfl := Option.some.inj eA_
  rw [Addr.add_zero'] at hx0_
  obtain ⟨n0_, hn0_⟩ : ∃ n, W[0]!.length = n := ⟨_, rfl⟩
  rw [hn0_] at hx0_
  have cb_ : ((n0_ : Int) != 1) = true := bne_iff_ne.2 (by have := H_b.out; omega)
  clear hn0_ hl0_ hi0_
  go_wp2_with (first | ((with_reducible refine gate_store (t := 29) (p := 2) (v := .tmp 19) rfl ?_); refine hold_here ?_))
  refine hold_go ?_
  refine row_store rfl 29 (.tmp 2) (.tmp 19) rfl g2_ #[.int .i64 5, .int .i64 0, .slice none 0 0, .int .i64 0, .int .i64 0, .slice none 0 0] rfl ?hy 29 _ BK2.out ?hi ?ho ?h1 rfl HB.out (show w.heap.size ≤ g2_ from (by have h_ := ZZ.out; omega)) ?_
  case hy => rfl
  case hi => kernel_rfl
  case ho => rfl
  case h1 => first | rfl | (simp [Value.oneCell']; done) | (go_simp; done)
  intro w3_ bo hk hb2
  clear BK2
  replace WS := Aside0.mk (AR.kept WS.out hk (by have h_ := ZZ.out; omega))
  replace HB := Aside0.mk hb2
  replace ZZ := Aside0.mk (And.intro ZZ.out (show w2_.heap.size ≤ w3_.heap.size from hk.1))
  have BK2 := Aside0.mk bo
  clear bo hk hb2
  go_wp2
  refine bodyPost_ret (results_cell_row rfl _ _ g2_ 29 #[.int .i64 5, .int .i64 0, .slice none 0 0, .int .i64 0, .int .i64 0, .slice none 0 0] (0, 0) _ rfl BK2.out Try.underlying29 rfl (by kernel_rfl)) rfl ?_
  exact ⟨none, 0, none, 0, rfl, Nat.le_refl _, Nat.le_refl _, SG.nil _ _ _ _ _ _, HB.out⟩
set_option maxHeartbeats 80000000 in
set_option maxRecDepth 100000 in
theorem impl_UnpackSign_D (ku : Nat) (A0 : Option Addr) (c0 : Nat) (l0 : List Int) (q0 q1 : Int) (W : List (List Int)) (x : Int) (ps ls : List (List Int)) (q : Int) (w : World) (hr0 : Kd.C (Kd.int .u8) w A0 l0.length l0) (hc0 : l0.length ≤ c0) (h_u : impl_UnpackWords.f ku l0 = some (q0, q1, W)) (h_n : 20 ≤ W.length) (h_x : W[0]! = [x]) (h_bx : 0 ≤ x ∧ x ≤ 255) (h_ps : (W.take 20).drop 1 = ps) (h_ls : W.drop 20 = ls) (h_qq : q = 0) (h_p : ∀ (B1 : Option Addr) (d1 : Nat) (B4 : Option Addr) (d4 : Nat) (Wd : World), Kd.C (Kd.slice 5 (Kd.int .u8)) Wd B1 ps.length ps → ps.length ≤ d1 → Kd.C (Kd.slice 5 (Kd.int .u8)) Wd B4 ls.length ls → ls.length ≤ d4 → Calls Try.prog 18 #[.agg #[.int .i64 x, .slice B1 ps.length d1, .int .i64 x, .int .i64 4, .slice B4 ls.length d4]] Wd (fun e w' => ∃ v1_ : Value, e = .returned (.agg #[.int .i64 q, v1_]) ∧ Below Wd.heap.size Wd w')) :
    Calls Try.prog 25 #[.slice A0 l0.length c0] w (fun e w' => ∃ A c B d, e = .returned (.agg #[.int .i64 0, .int .i64 x, .slice A ps.length c, .int .i64 x, .int .i64 4, .slice B ls.length d]) ∧ ps.length ≤ c ∧ ls.length ≤ d ∧ SG w.heap.size w' w.heap.size w'.heap.size A ps B ls ∧ Below w.heap.size w w') := by
  have hu1_ := Try.underlying29
  have hu2_ := Try.underlying25
  have hu3_ := Try.underlying72
  have hu4_ := Try.underlying27
  have HR0 := Aside0.mk hr0
  have HC0 := Aside0.mk hc0
  have H_u := Aside0.mk h_u
  have H_n := Aside0.mk h_n
  have H_x := Aside0.mk h_x
  have H_bx := Aside0.mk h_bx
  have H_ps := Aside0.mk h_ps
  have H_ls := Aside0.mk h_ls
  have H_qq := Aside0.mk h_qq
  have H_p := Aside0.mk h_p
  have HB := Aside0.mk (Below.refl w.heap.size w)
  have ZZ := Aside0.mk (Nat.le_refl w.heap.size)
  have hfd_2 := fun (a0 a1 a2 : Value) (w : World) => (show (Instr.field 72 (.agg #[a0, a1, a2]) 2).run Try.prog w = .ok a2 w from by kernel_rfl)
  have cn0_ : decide ((W.length : Int) < 20) = false := decide_eq_false (by omega)
  have cn1_ : decide (W.length < 20) = false := decide_eq_false (by omega)
  have cn2_ : (0 < W.length) = True := eq_true (by omega)
  have cn4_ : ((0 : Int) < (W.length : Int)) = True := eq_true (by omega)
  have cn6_ : ((20 : Int) ≤ (W.length : Int)) = True := eq_true (by omega)
  have cn7_ : (20 ≤ W.length) = True := eq_true (by omega)
  clear hr0 hc0 h_u h_n h_x h_bx h_ps h_ls h_qq h_p
  go_enter Try.func25, Try.ntmps25
  go_wp2_with (first | ((with_reducible refine gate_dst (N := 2) rfl ?_); refine hold_here ?_))
  refine hold_go ?_
  refine box_event (N := 2) (cs := #[.int .i64 0, .int .i64 0, .slice none 0 0, .int .i64 0, .int .i64 0, .slice none 0 0]) (t := 29) ?hgb rfl ?hrb ?_
  case hgb => rfl
  case hrb => first | (go_simp; done) | (go_simp; rfl)
  intro g2_ hg w1_ hbox hb
  replace HB := Aside0.mk (below_step HB.out hb)
  replace ZZ := Aside0.mk (And.intro ZZ.out (show w.heap.size ≤ w1_.heap.size from hb.size))
  have BK2 := Aside0.mk hbox
  replace ZZ := Aside0.mk (And.intro ZZ.out (And.intro (show g2_ = w.heap.size from hg) (show g2_ < w1_.heap.size from blk_lt hbox)))
  clear hb hbox hg
  go_wp2_with (first | (go_at_call 53; refine hold_here ?_))
  refine hold_go ?_
  refine (impl_UnpackWords.calls _ A0 c0 l0 q0 q1 W _ ?s1 ?s2 H_u.out).mono ?_
  case s1 => exact Kd.C_below HR0.out HB.out
  case s2 => exact HC0.out
  rintro e w2_ ⟨v, rfl, ho, hb⟩
  replace BK2 := Aside0.mk (blk_below BK2.out hb)
  replace HB := Aside0.mk (below_step HB.out hb)
  replace ZZ := Aside0.mk (And.intro ZZ.out (show w1_.heap.size ≤ w2_.heap.size from hb.size))
  have hfo_ := Kd.S_form ho (by have := H_n.out; omega)
  obtain ⟨A_WS, c_WS, ev_, hc_WS, hA_WS⟩ := AR_of_S (base := w.heap.size) ho (show w.heap.size ≤ w1_.heap.size from (by have h_ := ZZ.out; omega))
  subst ev_
  have HC_WS := Aside0.mk hc_WS
  have WS := Aside0.mk (show AR w.heap.size w2_ w1_.heap.size w2_.heap.size A_WS W from hA_WS)
  clear hc_WS hA_WS ho
  obtain ⟨gw_, cw_, evw_, _⟩ := hfo_
  injection evw_ with eA_ _ eC_
  subst eA_ eC_
  clear hb
  obtain ⟨ad_, B0_, d0_, eA_, hx0_, hl0_, hi0_⟩ := word_at (Kd.F_now (AR.foot WS.out)) 0 (by have := H_n.out; omega)
  obtain rfl := Option.some.inj eA_
  rw [Addr.add_zero'] at hx0_
  rw [H_x.out] at hx0_ hi0_
  simp only [List.length_cons, List.length_nil, Nat.zero_add] at hx0_ hi0_
  obtain ⟨b0_, e0_, hv0_⟩ := byte_at hi0_
  subst e0_
  clear hi0_ hl0_
  have HWX := Aside0.mk (w64 (n := x) (by have := H_bx.out; omega) (by have := H_bx.out; omega))
  have hfe_0 := fun (a0 a1 : Value) (w : World) => (show (Instr.field 42 (.agg #[a0, a1]) 0).run Try.prog w = .ok a0 w from by kernel_rfl)
  have cz0_ : (q == 0) = true := beq_iff_eq.2 H_qq.out
  have cz1_ : (q != 0) = false := bne_eq_false_iff_eq.2 H_qq.out
  try go_wp2_with fail
  simp only [HWX.out]
  replace BK2 := Aside0.mk (blk_drew BK2.out)
  replace WS := Aside0.mk (AR.drew WS.out)
  replace HB := Aside0.mk (below_drew1 HB.out)
  replace ZZ := Aside0.mk (And.intro ZZ.out (show w2_.heap.size ≤ w2_.drew.heap.size from Nat.le_refl _))
  refine start_ (n := 10) (S := fun w' => w'.cell? (⟨gw_, 0, none⟩) = some (.slice (some b0_) 1 d0_) ∧ w'.cell? (b0_) = some (.int .u8 x)) (ds := [9]) #[false, false, false, false, false, false, false, false, false, false] (by kernel_rfl) rfl rfl ⟨hx0_, hv0_⟩ (fun hHeld => ?_)
  generalize w2_.drew = w3_ at BK2 WS HB ZZ hHeld ⊢
  clear hx0_ hv0_
  have hS_ := SG.cuts WS.out 1 20 c_WS (by decide) H_n.out HC_WS.out
  rw [H_ps.out, H_ls.out, if_neg (show ¬ c_WS = 1 by have := HC_WS.out; have := H_n.out; omega)] at hS_
  obtain ⟨A_L, eAL_⟩ : ∃ A : Option Addr, (if c_WS = 20 then some ⟨gw_, 0, none⟩ else some ⟨gw_, 20, none⟩) = A := ⟨_, rfl⟩
  rw [show (if c_WS = 20 then (some (⟨gw_, 0, none⟩ : Addr)) else (some (⟨gw_, 0, none⟩ : Addr)).map (·.add 20)) = A_L from eAL_] at hS_
  obtain ⟨c_L, eCL_⟩ : ∃ c, c_WS - 20 = c := ⟨_, rfl⟩
  have hdl_ := congrArg List.length H_ls.out
  have hdp_ := congrArg List.length H_ps.out
  rw [List.length_drop] at hdl_
  rw [List.length_drop, List.length_take] at hdp_
  have HC_L := Aside0.mk (show ls.length ≤ c_L by have := HC_WS.out; omega)
  have HPL := Aside0.mk (show 19 = ps.length by have := H_n.out; omega)
  have PS := Aside0.mk (show SG _ _ _ _ (some ⟨gw_, 1, none⟩) ps A_L ls from hS_)
  have EAL := Aside0.mk eAL_
  have ECL := Aside0.mk eCL_
  have EDL := Aside0.mk hdl_
  clear hS_ eAL_ eCL_ hdl_ hdp_ WS
  refine pure_ (i := 0) (N := some 26) (v := ?_) (a' := ?_) #[true, false, false, false, false, false, false, false, false, false] rfl rfl (by kernel_rfl) (fun _ _ _ h => h) (Or.inl ⟨by rfl, ?_⟩) ?_ ?_
  rotate_left
  · intro w'
    go_simp
    with_reducible rfl
  rotate_left
  · simp only [Act.put, List.setIfInBounds_toArray, List.set_cons_zero, List.set_cons_succ, i64_w, i32_w]
    rfl
  refine pure_ (i := 1) (N := some 27) (v := ?_) (a' := ?_) #[true, true, false, false, false, false, false, false, false, false] rfl rfl (by kernel_rfl) (fun _ _ _ h => h) (Or.inl ⟨by rfl, ?_⟩) ?_ ?_
  rotate_left
  · intro w'
    go_simp
    with_reducible rfl
  rotate_left
  · simp only [Act.put, List.setIfInBounds_toArray, List.set_cons_zero, List.set_cons_succ, i64_w, i32_w]
    rfl
  refine pure_ (i := 2) (N := some 28) (v := .slice (some ⟨gw_, 1, none⟩) ps.length 19) (a' := ?_) #[true, true, true, false, false, false, false, false, false, false] rfl rfl (by kernel_rfl) (fun _ _ _ h => h) (Or.inl ⟨by rfl, ?_⟩) ?_ ?_
  · intro w'
    go_simp
    rw [if_pos (show (20 : Int) ≤ (c_WS : Int) by have := HC_WS.out; have := H_n.out; omega), ← HPL.out]
  rotate_left
  · simp only [Act.put, List.setIfInBounds_toArray, List.set_cons_zero, List.set_cons_succ, i64_w, i32_w]
    rfl
  refine pure_ (i := 3) (N := some 29) (v := ?_) (a' := ?_) #[true, true, true, true, false, false, false, false, false, false] rfl rfl (by kernel_rfl) (fun _ _ _ h => h) (Or.inl ⟨by rfl, ?_⟩) ?_ ?_
  rotate_left
  · intro w'
    go_simp
    with_reducible rfl
  rotate_left
  · simp only [Act.put, List.setIfInBounds_toArray, List.set_cons_zero, List.set_cons_succ, i64_w, i32_w]
    rfl
  refine pure_ (i := 4) (N := some 30) (v := ?_) (a' := ?_) #[true, true, true, true, true, false, false, false, false, false] rfl rfl (by kernel_rfl) (fun _ _ _ h => h) (Or.inl ⟨by rfl, ?_⟩) ?_ ?_
  rotate_left
  · intro w'
    go_simp
    with_reducible rfl
  rotate_left
  · simp only [Act.put, List.setIfInBounds_toArray, List.set_cons_zero, List.set_cons_succ, i64_w, i32_w]
    rfl
  refine pure_ (i := 5) (N := some 31) (v := .slice A_L ls.length c_L) (a' := ?_) #[true, true, true, true, true, true, false, false, false, false] rfl rfl (by kernel_rfl) (fun _ _ _ h => h) (Or.inl ⟨by rfl, ?_⟩) ?_ ?_
  · intro w'
    go_simp
    exact ⟨EAL.out, EDL.out, ECL.out⟩
  rotate_left
  · simp only [Act.put, List.setIfInBounds_toArray, List.set_cons_zero, List.set_cons_succ, i64_w, i32_w]
    rfl
  refine pure_ (i := 6) (N := some 32) (v := ?_) (a' := ?_) #[true, true, true, true, true, true, true, false, false, false] rfl rfl (by kernel_rfl) (fun _ _ _ h => h) (Or.inl ⟨by rfl, ?_⟩) ?_ ?_
  rotate_left
  · intro w'
    go_simp
    with_reducible rfl
  rotate_left
  · simp only [Act.put, List.setIfInBounds_toArray, List.set_cons_zero, List.set_cons_succ, i64_w, i32_w]
    rfl
  refine pure_ (i := 7) (N := some 33) (v := ?_) (a' := ?_) #[true, true, true, true, true, true, true, true, false, false] rfl rfl (by kernel_rfl) (fun _ _ _ h => h) (Or.inl ⟨by rfl, ?_⟩) ?_ ?_
  rotate_left
  · intro w'
    go_simp
    with_reducible rfl
  rotate_left
  · simp only [Act.put, List.setIfInBounds_toArray, List.set_cons_zero, List.set_cons_succ, i64_w, i32_w]
    rfl
  refine one_ (i := 8) (N := some 5) #[true, true, true, true, true, true, true, true, true, false] rfl rfl (by kernel_rfl) (by decide) (fun K hK => ?_)
  refine box_stepK (cs := #[.int .i64 0, .slice none 0 0, .int .i64 0, .int .i64 0, .slice none 0 0]) (t := 27) (by rfl) rfl ?hr ?_
  case hr => first | (go_simp; done) | (go_simp; rfl)
  intro g5_ hg w4_ hbox hb
  have hS_ : (fun w' : World => w'.cell? (⟨gw_, 0, none⟩) = some (.slice (some b0_) 1 d0_) ∧ w'.cell? (b0_) = some (.int .u8 x)) w4_ := by
    obtain ⟨s0, s1⟩ := hHeld
    exact ⟨(hb.cell (World.block_lt_of_cell? _ _ s0)).trans s0, (hb.cell (World.block_lt_of_cell? _ _ s1)).trans s1⟩
  replace BK2 := Aside0.mk (blk_below BK2.out hb)
  replace PS := Aside0.mk (SG.below PS.out hb)
  replace HB := Aside0.mk (below_step HB.out hb)
  replace ZZ := Aside0.mk (And.intro ZZ.out (show w3_.heap.size ≤ w4_.heap.size from hb.size))
  have BK5 := Aside0.mk hbox
  replace ZZ := Aside0.mk (And.intro ZZ.out (And.intro (show g5_ = w3_.heap.size from hg) (show g5_ < w4_.heap.size from blk_lt hbox)))
  clear hb hbox hg
  refine hK.out _ _ hS_ (fun hHeld2 => ?_)
  clear hK K hHeld hS_
  have hHeld := hHeld2
  clear hHeld2
  refine norm_ (a' := ?_) ?_ ?_
  rotate_left
  · show Act.put _ (some 5) _ = _
    simp only [Act.put, List.setIfInBounds_toArray, List.set_cons_zero, List.set_cons_succ, i64_w, i32_w]
    rfl
  refine last_ (i := 9) (N := none) #[true, true, true, true, true, true, true, true, true, true] rfl rfl (by kernel_rfl) (by decide) (fun K hK => ?_)
  refine row_stepK (by rfl) 27 (.tmp 5) (.tmp 33) rfl g5_ #[.int .i64 x, .slice (some ⟨gw_, 1, none⟩) ps.length 19, .int .i64 x, .int .i64 4, .slice A_L ls.length c_L] rfl ?hy 27 _ BK5.out ?hi ?ho ?h1 rfl HB.out (show w.heap.size ≤ g5_ from (by have h_ := ZZ.out; omega)) ?_
  case hy => rfl
  case hi => kernel_rfl
  case ho => rfl
  case h1 => first | rfl | (simp [Value.oneCell']; done) | (go_simp; done)
  clear hHeld
  intro w5_ bo hk hb2
  clear BK5
  replace BK2 := Aside0.mk (blk_keptIn BK2.out hk (by have h_ := ZZ.out; omega))
  replace PS := Aside0.mk (SG.kept PS.out hk (by have h_ := ZZ.out; omega))
  replace HB := Aside0.mk hb2
  replace ZZ := Aside0.mk (And.intro ZZ.out (show w4_.heap.size ≤ w5_.heap.size from hk.1))
  have BK5 := Aside0.mk bo
  clear bo hk hb2
  refine hK.out _ _ ?_
  clear hK K
  refine done_ (by kernel_rfl) ?_
  have hz_BK5_0 : w5_.cell? ⟨g5_, 0, none⟩ = some (.int .i64 x) := (blk_cell BK5.out 0).trans rfl
  have hz_BK5_1 : w5_.cell? ⟨g5_, 1, none⟩ = some (.slice (some ⟨gw_, 1, none⟩) ps.length 19) := (blk_cell BK5.out 1).trans rfl
  have hz_BK5_2 : w5_.cell? ⟨g5_, 2, none⟩ = some (.int .i64 x) := (blk_cell BK5.out 2).trans rfl
  have hz_BK5_3 : w5_.cell? ⟨g5_, 3, none⟩ = some (.int .i64 4) := (blk_cell BK5.out 3).trans rfl
  have hz_BK5_4 : w5_.cell? ⟨g5_, 4, none⟩ = some (.slice A_L ls.length c_L) := (blk_cell BK5.out 4).trans rfl
  go_wp2_with (first | (go_at_call 18; refine hold_here ?_))
  refine hold_go ?_
  refine (H_p.out (some ⟨gw_, 1, none⟩) 19 A_L c_L _ ?s1 ?s2 ?s3 ?s4).mono ?_
  case s1 => exact Kd.F_now (AR.foot (SG.ar1 PS.out))
  case s2 => have := HPL.out; omega
  case s3 => exact Kd.F_now (AR.foot (SG.ar2 PS.out))
  case s4 => exact HC_L.out
  rintro e w6_ ⟨v1, rfl, hb⟩
  replace BK2 := Aside0.mk (blk_below BK2.out hb)
  replace PS := Aside0.mk (SG.below PS.out hb)
  replace BK5 := Aside0.mk (blk_below BK5.out hb)
  replace HB := Aside0.mk (below_step HB.out hb)
  clear hz_BK5_0 hz_BK5_1 hz_BK5_2 hz_BK5_3 hz_BK5_4
  replace ZZ := Aside0.mk (And.intro ZZ.out (show w5_.heap.size ≤ w6_.heap.size from hb.size))
  clear hb
  have hz_BK5_0 : w6_.cell? ⟨g5_, 0, none⟩ = some (.int .i64 x) := (blk_cell BK5.out 0).trans rfl
  have hz_BK5_1 : w6_.cell? ⟨g5_, 1, none⟩ = some (.slice (some ⟨gw_, 1, none⟩) ps.length 19) := (blk_cell BK5.out 1).trans rfl
  have hz_BK5_2 : w6_.cell? ⟨g5_, 2, none⟩ = some (.int .i64 x) := (blk_cell BK5.out 2).trans rfl
  have hz_BK5_3 : w6_.cell? ⟨g5_, 3, none⟩ = some (.int .i64 4) := (blk_cell BK5.out 3).trans rfl
  have hz_BK5_4 : w6_.cell? ⟨g5_, 4, none⟩ = some (.slice A_L ls.length c_L) := (blk_cell BK5.out 4).trans rfl
  go_wp2_with (first | ((with_reducible refine gate_store (t := 29) (p := 2) (v := .tmp 40) rfl ?_); refine hold_here ?_))
  refine hold_go ?_
  refine row_store rfl 29 (.tmp 2) (.tmp 40) rfl g2_ #[.int .i64 0, .int .i64 x, .slice (some ⟨gw_, 1, none⟩) ps.length 19, .int .i64 x, .int .i64 4, .slice A_L ls.length c_L] rfl ?hy 29 _ BK2.out ?hi ?ho ?h1 rfl HB.out (show w.heap.size ≤ g2_ from (by have h_ := ZZ.out; omega)) ?_
  case hy => rfl
  case hi => kernel_rfl
  case ho => rfl
  case h1 => first | rfl | (simp [Value.oneCell']; done) | (go_simp; done)
  intro w7_ bo hk hb2
  clear BK2
  replace PS := Aside0.mk (SG.kept PS.out hk (by have h_ := ZZ.out; omega))
  replace BK5 := Aside0.mk (blk_keptIn BK5.out hk (by have h_ := ZZ.out; omega))
  replace HB := Aside0.mk hb2
  clear hz_BK5_0 hz_BK5_1 hz_BK5_2 hz_BK5_3 hz_BK5_4
  replace ZZ := Aside0.mk (And.intro ZZ.out (show w6_.heap.size ≤ w7_.heap.size from hk.1))
  have BK2 := Aside0.mk bo
  clear bo hk hb2
  have hz_BK5_0 : w7_.cell? ⟨g5_, 0, none⟩ = some (.int .i64 x) := (blk_cell BK5.out 0).trans rfl
  have hz_BK5_1 : w7_.cell? ⟨g5_, 1, none⟩ = some (.slice (some ⟨gw_, 1, none⟩) ps.length 19) := (blk_cell BK5.out 1).trans rfl
  have hz_BK5_2 : w7_.cell? ⟨g5_, 2, none⟩ = some (.int .i64 x) := (blk_cell BK5.out 2).trans rfl
  have hz_BK5_3 : w7_.cell? ⟨g5_, 3, none⟩ = some (.int .i64 4) := (blk_cell BK5.out 3).trans rfl
  have hz_BK5_4 : w7_.cell? ⟨g5_, 4, none⟩ = some (.slice A_L ls.length c_L) := (blk_cell BK5.out 4).trans rfl
  go_wp2
  refine bodyPost_ret (results_cell_row rfl _ _ g2_ 29 #[.int .i64 0, .int .i64 x, .slice (some ⟨gw_, 1, none⟩) ps.length 19, .int .i64 x, .int .i64 4, .slice A_L ls.length c_L] (0, 0) _ rfl BK2.out Try.underlying29 rfl (by kernel_rfl)) rfl ?_
  exact ⟨_, 19, A_L, c_L, rfl, by have := HPL.out; omega, HC_L.out, SG.grow PS.out (by have h_ := ZZ.out; omega) (by have h_ := ZZ.out; omega), HB.out⟩
set_option maxHeartbeats 80000000 in
set_option maxRecDepth 100000 in
theorem impl_UnpackSign_E (ku : Nat) (A0 : Option Addr) (c0 : Nat) (l0 : List Int) (q0 q1 : Int) (W : List (List Int)) (x : Int) (ps ls : List (List Int)) (q : Int) (w : World) (hr0 : Kd.C (Kd.int .u8) w A0 l0.length l0) (hc0 : l0.length ≤ c0) (h_u : impl_UnpackWords.f ku l0 = some (q0, q1, W)) (h_n : 20 ≤ W.length) (h_x : W[0]! = [x]) (h_bx : 0 ≤ x ∧ x ≤ 255) (h_ps : (W.take 20).drop 1 = ps) (h_ls : W.drop 20 = ls) (h_qq : q ≠ 0) (h_p : ∀ (B1 : Option Addr) (d1 : Nat) (B4 : Option Addr) (d4 : Nat) (Wd : World), Kd.C (Kd.slice 5 (Kd.int .u8)) Wd B1 ps.length ps → ps.length ≤ d1 → Kd.C (Kd.slice 5 (Kd.int .u8)) Wd B4 ls.length ls → ls.length ≤ d4 → Calls Try.prog 18 #[.agg #[.int .i64 x, .slice B1 ps.length d1, .int .i64 x, .int .i64 4, .slice B4 ls.length d4]] Wd (fun e w' => ∃ v1_ : Value, e = .returned (.agg #[.int .i64 q, v1_]) ∧ Below Wd.heap.size Wd w')) :
    Calls Try.prog 25 #[.slice A0 l0.length c0] w (fun e w' => ∃ A c B d, e = .returned (.agg #[.int .i64 5, .int .i64 0, .slice A ([] : List (List Int)).length c, .int .i64 0, .int .i64 0, .slice B ([] : List (List Int)).length d]) ∧ ([] : List (List Int)).length ≤ c ∧ ([] : List (List Int)).length ≤ d ∧ SG w.heap.size w' w.heap.size w'.heap.size A ([] : List (List Int)) B ([] : List (List Int)) ∧ Below w.heap.size w w') := by
  have hu1_ := Try.underlying29
  have hu2_ := Try.underlying25
  have hu3_ := Try.underlying72
  have hu4_ := Try.underlying27
  have HR0 := Aside0.mk hr0
  have HC0 := Aside0.mk hc0
  have H_u := Aside0.mk h_u
  have H_n := Aside0.mk h_n
  have H_x := Aside0.mk h_x
  have H_bx := Aside0.mk h_bx
  have H_ps := Aside0.mk h_ps
  have H_ls := Aside0.mk h_ls
  have H_qq := Aside0.mk h_qq
  have H_p := Aside0.mk h_p
  have HB := Aside0.mk (Below.refl w.heap.size w)
  have ZZ := Aside0.mk (Nat.le_refl w.heap.size)
  have hfd_2 := fun (a0 a1 a2 : Value) (w : World) => (show (Instr.field 72 (.agg #[a0, a1, a2]) 2).run Try.prog w = .ok a2 w from by kernel_rfl)
  have cn0_ : decide ((W.length : Int) < 20) = false := decide_eq_false (by omega)
  have cn1_ : decide (W.length < 20) = false := decide_eq_false (by omega)
  have cn2_ : (0 < W.length) = True := eq_true (by omega)
  have cn4_ : ((0 : Int) < (W.length : Int)) = True := eq_true (by omega)
  have cn6_ : ((20 : Int) ≤ (W.length : Int)) = True := eq_true (by omega)
  have cn7_ : (20 ≤ W.length) = True := eq_true (by omega)
  clear hr0 hc0 h_u h_n h_x h_bx h_ps h_ls h_qq h_p
  go_enter Try.func25, Try.ntmps25
  go_wp2_with (first | ((with_reducible refine gate_dst (N := 2) rfl ?_); refine hold_here ?_))
  refine hold_go ?_
  refine box_event (N := 2) (cs := #[.int .i64 0, .int .i64 0, .slice none 0 0, .int .i64 0, .int .i64 0, .slice none 0 0]) (t := 29) ?hgb rfl ?hrb ?_
  case hgb => rfl
  case hrb => first | (go_simp; done) | (go_simp; rfl)
  intro g2_ hg w1_ hbox hb
  replace HB := Aside0.mk (below_step HB.out hb)
  replace ZZ := Aside0.mk (And.intro ZZ.out (show w.heap.size ≤ w1_.heap.size from hb.size))
  have BK2 := Aside0.mk hbox
  replace ZZ := Aside0.mk (And.intro ZZ.out (And.intro (show g2_ = w.heap.size from hg) (show g2_ < w1_.heap.size from blk_lt hbox)))
  clear hb hbox hg
  go_wp2_with (first | (go_at_call 53; refine hold_here ?_))
  refine hold_go ?_
  refine (impl_UnpackWords.calls _ A0 c0 l0 q0 q1 W _ ?s1 ?s2 H_u.out).mono ?_
  case s1 => exact Kd.C_below HR0.out HB.out
  case s2 => exact HC0.out
  rintro e w2_ ⟨v, rfl, ho, hb⟩
  replace BK2 := Aside0.mk (blk_below BK2.out hb)
  replace HB := Aside0.mk (below_step HB.out hb)
  replace ZZ := Aside0.mk (And.intro ZZ.out (show w1_.heap.size ≤ w2_.heap.size from hb.size))
  have hfo_ := Kd.S_form ho (by have := H_n.out; omega)
  obtain ⟨A_WS, c_WS, ev_, hc_WS, hA_WS⟩ := AR_of_S (base := w.heap.size) ho (show w.heap.size ≤ w1_.heap.size from (by have h_ := ZZ.out; omega))
  subst ev_
  have HC_WS := Aside0.mk hc_WS
  have WS := Aside0.mk (show AR w.heap.size w2_ w1_.heap.size w2_.heap.size A_WS W from hA_WS)
  clear hc_WS hA_WS ho
  obtain ⟨gw_, cw_, evw_, _⟩ := hfo_
  injection evw_ with eA_ _ eC_
  subst eA_ eC_
  clear hb
  obtain ⟨ad_, B0_, d0_, eA_, hx0_, hl0_, hi0_⟩ := word_at (Kd.F_now (AR.foot WS.out)) 0 (by have := H_n.out; omega)
  obtain rfl := Option.some.inj eA_
  rw [Addr.add_zero'] at hx0_
  rw [H_x.out] at hx0_ hi0_
  simp only [List.length_cons, List.length_nil, Nat.zero_add] at hx0_ hi0_
  obtain ⟨b0_, e0_, hv0_⟩ := byte_at hi0_
  subst e0_
  clear hi0_ hl0_
  have HWX := Aside0.mk (w64 (n := x) (by have := H_bx.out; omega) (by have := H_bx.out; omega))
  have hfe_0 := fun (a0 a1 : Value) (w : World) => (show (Instr.field 42 (.agg #[a0, a1]) 0).run Try.prog w = .ok a0 w from by kernel_rfl)
  have cz0_ : (q == 0) = false := beq_eq_false_iff_ne.2 H_qq.out
  have cz1_ : (q != 0) = true := bne_iff_ne.2 H_qq.out
  try go_wp2_with fail
  simp only [HWX.out]
  replace BK2 := Aside0.mk (blk_drew BK2.out)
  replace WS := Aside0.mk (AR.drew WS.out)
  replace HB := Aside0.mk (below_drew1 HB.out)
  replace ZZ := Aside0.mk (And.intro ZZ.out (show w2_.heap.size ≤ w2_.drew.heap.size from Nat.le_refl _))
  refine start_ (n := 10) (S := fun w' => w'.cell? (⟨gw_, 0, none⟩) = some (.slice (some b0_) 1 d0_) ∧ w'.cell? (b0_) = some (.int .u8 x)) (ds := [9]) #[false, false, false, false, false, false, false, false, false, false] (by kernel_rfl) rfl rfl ⟨hx0_, hv0_⟩ (fun hHeld => ?_)
  generalize w2_.drew = w3_ at BK2 WS HB ZZ hHeld ⊢
  clear hx0_ hv0_
  have hS_ := SG.cuts WS.out 1 20 c_WS (by decide) H_n.out HC_WS.out
  rw [H_ps.out, H_ls.out, if_neg (show ¬ c_WS = 1 by have := HC_WS.out; have := H_n.out; omega)] at hS_
  obtain ⟨A_L, eAL_⟩ : ∃ A : Option Addr, (if c_WS = 20 then some ⟨gw_, 0, none⟩ else some ⟨gw_, 20, none⟩) = A := ⟨_, rfl⟩
  rw [show (if c_WS = 20 then (some (⟨gw_, 0, none⟩ : Addr)) else (some (⟨gw_, 0, none⟩ : Addr)).map (·.add 20)) = A_L from eAL_] at hS_
  obtain ⟨c_L, eCL_⟩ : ∃ c, c_WS - 20 = c := ⟨_, rfl⟩
  have hdl_ := congrArg List.length H_ls.out
  have hdp_ := congrArg List.length H_ps.out
  rw [List.length_drop] at hdl_
  rw [List.length_drop, List.length_take] at hdp_
  have HC_L := Aside0.mk (show ls.length ≤ c_L by have := HC_WS.out; omega)
  have HPL := Aside0.mk (show 19 = ps.length by have := H_n.out; omega)
  have PS := Aside0.mk (show SG _ _ _ _ (some ⟨gw_, 1, none⟩) ps A_L ls from hS_)
  have EAL := Aside0.mk eAL_
  have ECL := Aside0.mk eCL_
  have EDL := Aside0.mk hdl_
  clear hS_ eAL_ eCL_ hdl_ hdp_ WS
  refine pure_ (i := 0) (N := some 26) (v := ?_) (a' := ?_) #[true, false, false, false, false, false, false, false, false, false] rfl rfl (by kernel_rfl) (fun _ _ _ h => h) (Or.inl ⟨by rfl, ?_⟩) ?_ ?_
  rotate_left
  · intro w'
    go_simp
    with_reducible rfl
  rotate_left
  · simp only [Act.put, List.setIfInBounds_toArray, List.set_cons_zero, List.set_cons_succ, i64_w, i32_w]
    rfl
  refine pure_ (i := 1) (N := some 27) (v := ?_) (a' := ?_) #[true, true, false, false, false, false, false, false, false, false] rfl rfl (by kernel_rfl) (fun _ _ _ h => h) (Or.inl ⟨by rfl, ?_⟩) ?_ ?_
  rotate_left
  · intro w'
    go_simp
    with_reducible rfl
  rotate_left
  · simp only [Act.put, List.setIfInBounds_toArray, List.set_cons_zero, List.set_cons_succ, i64_w, i32_w]
    rfl
  refine pure_ (i := 2) (N := some 28) (v := .slice (some ⟨gw_, 1, none⟩) ps.length 19) (a' := ?_) #[true, true, true, false, false, false, false, false, false, false] rfl rfl (by kernel_rfl) (fun _ _ _ h => h) (Or.inl ⟨by rfl, ?_⟩) ?_ ?_
  · intro w'
    go_simp
    rw [if_pos (show (20 : Int) ≤ (c_WS : Int) by have := HC_WS.out; have := H_n.out; omega), ← HPL.out]
  rotate_left
  · simp only [Act.put, List.setIfInBounds_toArray, List.set_cons_zero, List.set_cons_succ, i64_w, i32_w]
    rfl
  refine pure_ (i := 3) (N := some 29) (v := ?_) (a' := ?_) #[true, true, true, true, false, false, false, false, false, false] rfl rfl (by kernel_rfl) (fun _ _ _ h => h) (Or.inl ⟨by rfl, ?_⟩) ?_ ?_
  rotate_left
  · intro w'
    go_simp
    with_reducible rfl
  rotate_left
  · simp only [Act.put, List.setIfInBounds_toArray, List.set_cons_zero, List.set_cons_succ, i64_w, i32_w]
    rfl
  refine pure_ (i := 4) (N := some 30) (v := ?_) (a' := ?_) #[true, true, true, true, true, false, false, false, false, false] rfl rfl (by kernel_rfl) (fun _ _ _ h => h) (Or.inl ⟨by rfl, ?_⟩) ?_ ?_
  rotate_left
  · intro w'
    go_simp
    with_reducible rfl
  rotate_left
  · simp only [Act.put, List.setIfInBounds_toArray, List.set_cons_zero, List.set_cons_succ, i64_w, i32_w]
    rfl
  refine pure_ (i := 5) (N := some 31) (v := .slice A_L ls.length c_L) (a' := ?_) #[true, true, true, true, true, true, false, false, false, false] rfl rfl (by kernel_rfl) (fun _ _ _ h => h) (Or.inl ⟨by rfl, ?_⟩) ?_ ?_
  · intro w'
    go_simp
    exact ⟨EAL.out, EDL.out, ECL.out⟩
  rotate_left
  · simp only [Act.put, List.setIfInBounds_toArray, List.set_cons_zero, List.set_cons_succ, i64_w, i32_w]
    rfl
  refine pure_ (i := 6) (N := some 32) (v := ?_) (a' := ?_) #[true, true, true, true, true, true, true, false, false, false] rfl rfl (by kernel_rfl) (fun _ _ _ h => h) (Or.inl ⟨by rfl, ?_⟩) ?_ ?_
  rotate_left
  · intro w'
    go_simp
    with_reducible rfl
  rotate_left
  · simp only [Act.put, List.setIfInBounds_toArray, List.set_cons_zero, List.set_cons_succ, i64_w, i32_w]
    rfl
  refine pure_ (i := 7) (N := some 33) (v := ?_) (a' := ?_) #[true, true, true, true, true, true, true, true, false, false] rfl rfl (by kernel_rfl) (fun _ _ _ h => h) (Or.inl ⟨by rfl, ?_⟩) ?_ ?_
  rotate_left
  · intro w'
    go_simp
    with_reducible rfl
  rotate_left
  · simp only [Act.put, List.setIfInBounds_toArray, List.set_cons_zero, List.set_cons_succ, i64_w, i32_w]
    rfl
  refine one_ (i := 8) (N := some 5) #[true, true, true, true, true, true, true, true, true, false] rfl rfl (by kernel_rfl) (by decide) (fun K hK => ?_)
  refine box_stepK (cs := #[.int .i64 0, .slice none 0 0, .int .i64 0, .int .i64 0, .slice none 0 0]) (t := 27) (by rfl) rfl ?hr ?_
  case hr => first | (go_simp; done) | (go_simp; rfl)
  intro g5_ hg w4_ hbox hb
  have hS_ : (fun w' : World => w'.cell? (⟨gw_, 0, none⟩) = some (.slice (some b0_) 1 d0_) ∧ w'.cell? (b0_) = some (.int .u8 x)) w4_ := by
    obtain ⟨s0, s1⟩ := hHeld
    exact ⟨(hb.cell (World.block_lt_of_cell? _ _ s0)).trans s0, (hb.cell (World.block_lt_of_cell? _ _ s1)).trans s1⟩
  replace BK2 := Aside0.mk (blk_below BK2.out hb)
  replace PS := Aside0.mk (SG.below PS.out hb)
  replace HB := Aside0.mk (below_step HB.out hb)
  replace ZZ := Aside0.mk (And.intro ZZ.out (show w3_.heap.size ≤ w4_.heap.size from hb.size))
  have BK5 := Aside0.mk hbox
  replace ZZ := Aside0.mk (And.intro ZZ.out (And.intro (show g5_ = w3_.heap.size from hg) (show g5_ < w4_.heap.size from blk_lt hbox)))
  clear hb hbox hg
  refine hK.out _ _ hS_ (fun hHeld2 => ?_)
  clear hK K hHeld hS_
  have hHeld := hHeld2
  clear hHeld2
  refine norm_ (a' := ?_) ?_ ?_
  rotate_left
  · show Act.put _ (some 5) _ = _
    simp only [Act.put, List.setIfInBounds_toArray, List.set_cons_zero, List.set_cons_succ, i64_w, i32_w]
    rfl
  refine last_ (i := 9) (N := none) #[true, true, true, true, true, true, true, true, true, true] rfl rfl (by kernel_rfl) (by decide) (fun K hK => ?_)
  refine row_stepK (by rfl) 27 (.tmp 5) (.tmp 33) rfl g5_ #[.int .i64 x, .slice (some ⟨gw_, 1, none⟩) ps.length 19, .int .i64 x, .int .i64 4, .slice A_L ls.length c_L] rfl ?hy 27 _ BK5.out ?hi ?ho ?h1 rfl HB.out (show w.heap.size ≤ g5_ from (by have h_ := ZZ.out; omega)) ?_
  case hy => rfl
  case hi => kernel_rfl
  case ho => rfl
  case h1 => first | rfl | (simp [Value.oneCell']; done) | (go_simp; done)
  clear hHeld
  intro w5_ bo hk hb2
  clear BK5
  replace BK2 := Aside0.mk (blk_keptIn BK2.out hk (by have h_ := ZZ.out; omega))
  replace PS := Aside0.mk (SG.kept PS.out hk (by have h_ := ZZ.out; omega))
  replace HB := Aside0.mk hb2
  replace ZZ := Aside0.mk (And.intro ZZ.out (show w4_.heap.size ≤ w5_.heap.size from hk.1))
  have BK5 := Aside0.mk bo
  clear bo hk hb2
  refine hK.out _ _ ?_
  clear hK K
  refine done_ (by kernel_rfl) ?_
  have hz_BK5_0 : w5_.cell? ⟨g5_, 0, none⟩ = some (.int .i64 x) := (blk_cell BK5.out 0).trans rfl
  have hz_BK5_1 : w5_.cell? ⟨g5_, 1, none⟩ = some (.slice (some ⟨gw_, 1, none⟩) ps.length 19) := (blk_cell BK5.out 1).trans rfl
  have hz_BK5_2 : w5_.cell? ⟨g5_, 2, none⟩ = some (.int .i64 x) := (blk_cell BK5.out 2).trans rfl
  have hz_BK5_3 : w5_.cell? ⟨g5_, 3, none⟩ = some (.int .i64 4) := (blk_cell BK5.out 3).trans rfl
  have hz_BK5_4 : w5_.cell? ⟨g5_, 4, none⟩ = some (.slice A_L ls.length c_L) := (blk_cell BK5.out 4).trans rfl
  go_wp2_with (first | (go_at_call 18; refine hold_here ?_))
  refine hold_go ?_
  refine (H_p.out (some ⟨gw_, 1, none⟩) 19 A_L c_L _ ?s1 ?s2 ?s3 ?s4).mono ?_
  case s1 => exact Kd.F_now (AR.foot (SG.ar1 PS.out))
  case s2 => have := HPL.out; omega
  case s3 => exact Kd.F_now (AR.foot (SG.ar2 PS.out))
  case s4 => exact HC_L.out
  rintro e w6_ ⟨v1, rfl, hb⟩
  replace BK2 := Aside0.mk (blk_below BK2.out hb)
  replace PS := Aside0.mk (SG.below PS.out hb)
  replace BK5 := Aside0.mk (blk_below BK5.out hb)
  replace HB := Aside0.mk (below_step HB.out hb)
  clear hz_BK5_0 hz_BK5_1 hz_BK5_2 hz_BK5_3 hz_BK5_4
  replace ZZ := Aside0.mk (And.intro ZZ.out (show w5_.heap.size ≤ w6_.heap.size from hb.size))
  clear hb
  have hz_BK5_0 : w6_.cell? ⟨g5_, 0, none⟩ = some (.int .i64 x) := (blk_cell BK5.out 0).trans rfl
  have hz_BK5_1 : w6_.cell? ⟨g5_, 1, none⟩ = some (.slice (some ⟨gw_, 1, none⟩) ps.length 19) := (blk_cell BK5.out 1).trans rfl
  have hz_BK5_2 : w6_.cell? ⟨g5_, 2, none⟩ = some (.int .i64 x) := (blk_cell BK5.out 2).trans rfl
  have hz_BK5_3 : w6_.cell? ⟨g5_, 3, none⟩ = some (.int .i64 4) := (blk_cell BK5.out 3).trans rfl
  have hz_BK5_4 : w6_.cell? ⟨g5_, 4, none⟩ = some (.slice A_L ls.length c_L) := (blk_cell BK5.out 4).trans rfl
  go_wp2_with (first | ((with_reducible refine gate_store (t := 29) (p := 2) (v := .tmp 38) rfl ?_); refine hold_here ?_))
  refine hold_go ?_
  refine row_store rfl 29 (.tmp 2) (.tmp 38) rfl g2_ #[.int .i64 5, .int .i64 0, .slice none 0 0, .int .i64 0, .int .i64 0, .slice none 0 0] rfl ?hy 29 _ BK2.out ?hi ?ho ?h1 rfl HB.out (show w.heap.size ≤ g2_ from (by have h_ := ZZ.out; omega)) ?_
  case hy => rfl
  case hi => kernel_rfl
  case ho => rfl
  case h1 => first | rfl | (simp [Value.oneCell']; done) | (go_simp; done)
  intro w7_ bo hk hb2
  clear BK2
  replace PS := Aside0.mk (SG.kept PS.out hk (by have h_ := ZZ.out; omega))
  replace BK5 := Aside0.mk (blk_keptIn BK5.out hk (by have h_ := ZZ.out; omega))
  replace HB := Aside0.mk hb2
  clear hz_BK5_0 hz_BK5_1 hz_BK5_2 hz_BK5_3 hz_BK5_4
  replace ZZ := Aside0.mk (And.intro ZZ.out (show w6_.heap.size ≤ w7_.heap.size from hk.1))
  have BK2 := Aside0.mk bo
  clear bo hk hb2
  have hz_BK5_0 : w7_.cell? ⟨g5_, 0, none⟩ = some (.int .i64 x) := (blk_cell BK5.out 0).trans rfl
  have hz_BK5_1 : w7_.cell? ⟨g5_, 1, none⟩ = some (.slice (some ⟨gw_, 1, none⟩) ps.length 19) := (blk_cell BK5.out 1).trans rfl
  have hz_BK5_2 : w7_.cell? ⟨g5_, 2, none⟩ = some (.int .i64 x) := (blk_cell BK5.out 2).trans rfl
  have hz_BK5_3 : w7_.cell? ⟨g5_, 3, none⟩ = some (.int .i64 4) := (blk_cell BK5.out 3).trans rfl
  have hz_BK5_4 : w7_.cell? ⟨g5_, 4, none⟩ = some (.slice A_L ls.length c_L) := (blk_cell BK5.out 4).trans rfl
  go_wp2
  refine bodyPost_ret (results_cell_row rfl _ _ g2_ 29 #[.int .i64 5, .int .i64 0, .slice none 0 0, .int .i64 0, .int .i64 0, .slice none 0 0] (0, 0) _ rfl BK2.out Try.underlying29 rfl (by kernel_rfl)) rfl ?_
  exact ⟨none, 0, none, 0, rfl, Nat.le_refl _, Nat.le_refl _, SG.nil _ _ _ _ _ _, HB.out⟩

end Go.Proofs.Ytchmaojmknfbpaa.S

/- The walk over spec.UnpackSign: what it answers, way by way. No condition beyond those in the statements. -/
set_option linter.unusedVariables false
set_option linter.unusedSimpArgs false
namespace Go.Proofs.Ytchmaojmknfbpaa.S
open Go Go.RowKit Go.Proofs.YtchmaojmknfbpaaW.PrintWords Go.Proofs.YtchmaojmknfbpaaW.PrintLast Go.Proofs.YtchmaojmknfbpaaW.PrintMore Go.Proofs.Ytchmaojmknfbpaa.Base
attribute [local go_sem] max2_int min2_int max_two min_two max_three min_three max_four min_four

set_option maxHeartbeats 80000000 in
set_option maxRecDepth 100000 in
theorem spec_UnpackSign_N (ku : Nat) (A0 : Option Addr) (c0 : Nat) (l0 : List Int) (q0 q1 : Int) (W : List (List Int)) (w : World) (hr0 : Kd.C (Kd.int .u8) w A0 l0.length l0) (hc0 : l0.length ≤ c0) (h_u : spec_UnpackWords.f ku l0 = some (q0, q1, W)) (h_q : q0 ≠ 0) :
    Calls Try.prog 24 #[.slice A0 l0.length c0] w (fun e w' => ∃ A c B d, e = .returned (.agg #[.int .i64 5, .int .i64 0, .slice A ([] : List (List Int)).length c, .int .i64 0, .int .i64 0, .slice B ([] : List (List Int)).length d]) ∧ ([] : List (List Int)).length ≤ c ∧ ([] : List (List Int)).length ≤ d ∧ SG w.heap.size w' w.heap.size w'.heap.size A ([] : List (List Int)) B ([] : List (List Int)) ∧ Below w.heap.size w w') := by
  have hu1_ := Try.underlying29
  have hu2_ := Try.underlying25
  have hu3_ := Try.underlying72
  have hu4_ := Try.underlying27
  have HR0 := Aside0.mk hr0
  have HC0 := Aside0.mk hc0
  have H_u := Aside0.mk h_u
  have H_q := Aside0.mk h_q
  have HB := Aside0.mk (Below.refl w.heap.size w)
  have ZZ := Aside0.mk (Nat.le_refl w.heap.size)
  have cq0_ : (q0 == 0) = false := beq_eq_false_iff_ne.2 h_q
  have cq1_ : (q0 != 0) = true := bne_iff_ne.2 h_q
  clear hr0 hc0 h_u h_q
  go_enter Try.func24, Try.ntmps24
  go_wp2_with (first | ((with_reducible refine gate_dst (N := 2) rfl ?_); refine hold_here ?_))
  refine hold_go ?_
  refine box_event (N := 2) (cs := #[.int .i64 0, .int .i64 0, .slice none 0 0, .int .i64 0, .int .i64 0, .slice none 0 0]) (t := 29) ?hgb rfl ?hrb ?_
  case hgb => rfl
  case hrb => first | (go_simp; done) | (go_simp; rfl)
  intro g2_ hg w1_ hbox hb
  replace HB := Aside0.mk (below_step HB.out hb)
  replace ZZ := Aside0.mk (And.intro ZZ.out (show w.heap.size ≤ w1_.heap.size from hb.size))
  have BK2 := Aside0.mk hbox
  replace ZZ := Aside0.mk (And.intro ZZ.out (And.intro (show g2_ = w.heap.size from hg) (show g2_ < w1_.heap.size from blk_lt hbox)))
  clear hb hbox hg
  go_wp2_with (first | (go_at_call 52; refine hold_here ?_))
  refine hold_go ?_
  refine (spec_UnpackWords.calls _ A0 c0 l0 q0 q1 W _ ?s1 ?s2 H_u.out).mono ?_
  case s1 => exact Kd.C_below HR0.out HB.out
  case s2 => exact HC0.out
  rintro e w2_ ⟨v, rfl, ho, hb⟩
  replace BK2 := Aside0.mk (blk_below BK2.out hb)
  replace HB := Aside0.mk (below_step HB.out hb)
  replace ZZ := Aside0.mk (And.intro ZZ.out (show w1_.heap.size ≤ w2_.heap.size from hb.size))
  obtain ⟨A_WS, c_WS, ev_, hc_WS, hA_WS⟩ := AR_of_S (base := w.heap.size) ho (show w.heap.size ≤ w1_.heap.size from (by have h_ := ZZ.out; omega))
  subst ev_
  have HC_WS := Aside0.mk hc_WS
  have WS := Aside0.mk (show AR w.heap.size w2_ w1_.heap.size w2_.heap.size A_WS W from hA_WS)
  clear hc_WS hA_WS ho
  clear hb
  go_wp2_with (first | ((with_reducible refine gate_dst (N := 3) rfl ?_); refine hold_here ?_))
  refine hold_go ?_
  refine box_event (N := 3) (cs := #[.int .i64 0, .int .i64 0, .slice none 0 0]) (t := 72) ?hgb rfl ?hrb ?_
  case hgb => rfl
  case hrb => first | (go_simp; done) | (go_simp; rfl)
  intro g3_ hg w3_ hbox hb
  replace BK2 := Aside0.mk (blk_below BK2.out hb)
  replace WS := Aside0.mk (AR.below WS.out hb)
  replace HB := Aside0.mk (below_step HB.out hb)
  replace ZZ := Aside0.mk (And.intro ZZ.out (show w2_.heap.size ≤ w3_.heap.size from hb.size))
  have BK3 := Aside0.mk hbox
  replace ZZ := Aside0.mk (And.intro ZZ.out (And.intro (show g3_ = w2_.heap.size from hg) (show g3_ < w3_.heap.size from blk_lt hbox)))
  clear hb hbox hg
  have hz_BK3_0 : w3_.cell? ⟨g3_, 0, none⟩ = some (.int .i64 0) := (blk_cell BK3.out 0).trans rfl
  have hz_BK3_1 : w3_.cell? ⟨g3_, 1, none⟩ = some (.int .i64 0) := (blk_cell BK3.out 1).trans rfl
  have hz_BK3_2 : w3_.cell? ⟨g3_, 2, none⟩ = some (.slice none 0 0) := (blk_cell BK3.out 2).trans rfl
  go_wp2_with (first | ((with_reducible refine gate_store (t := 72) (p := 3) (v := .tmp 7) rfl ?_); refine hold_here ?_))
  refine hold_go ?_
  refine row_store rfl 72 (.tmp 3) (.tmp 7) rfl g3_ #[.int .i64 q0, .int .i64 q1, .slice A_WS W.length c_WS] rfl ?hy 72 _ BK3.out ?hi ?ho ?h1 rfl HB.out (show w.heap.size ≤ g3_ from (by have h_ := ZZ.out; omega)) ?_
  case hy => rfl
  case hi => kernel_rfl
  case ho => rfl
  case h1 => first | rfl | (simp [Value.oneCell']; done) | (go_simp; done)
  intro w4_ bo hk hb2
  clear BK3
  replace BK2 := Aside0.mk (blk_keptIn BK2.out hk (by have h_ := ZZ.out; omega))
  replace WS := Aside0.mk (AR.kept WS.out hk (by have h_ := ZZ.out; omega))
  replace HB := Aside0.mk hb2
  clear hz_BK3_0 hz_BK3_1 hz_BK3_2
  replace ZZ := Aside0.mk (And.intro ZZ.out (show w3_.heap.size ≤ w4_.heap.size from hk.1))
  have BK3 := Aside0.mk bo
  clear bo hk hb2
  have hz_BK3_0 : w4_.cell? ⟨g3_, 0, none⟩ = some (.int .i64 q0) := (blk_cell BK3.out 0).trans rfl
  have hz_BK3_1 : w4_.cell? ⟨g3_, 1, none⟩ = some (.int .i64 q1) := (blk_cell BK3.out 1).trans rfl
  have hz_BK3_2 : w4_.cell? ⟨g3_, 2, none⟩ = some (.slice A_WS W.length c_WS) := (blk_cell BK3.out 2).trans rfl
  go_wp2_with (first | ((with_reducible refine gate_store (t := 29) (p := 2) (v := .tmp 25) rfl ?_); refine hold_here ?_))
  refine hold_go ?_
  refine row_store rfl 29 (.tmp 2) (.tmp 25) rfl g2_ #[.int .i64 5, .int .i64 0, .slice none 0 0, .int .i64 0, .int .i64 0, .slice none 0 0] rfl ?hy 29 _ BK2.out ?hi ?ho ?h1 rfl HB.out (show w.heap.size ≤ g2_ from (by have h_ := ZZ.out; omega)) ?_
  case hy => rfl
  case hi => kernel_rfl
  case ho => rfl
  case h1 => first | rfl | (simp [Value.oneCell']; done) | (go_simp; done)
  intro w5_ bo hk hb2
  clear BK2
  replace WS := Aside0.mk (AR.kept WS.out hk (by have h_ := ZZ.out; omega))
  replace BK3 := Aside0.mk (blk_keptIn BK3.out hk (by have h_ := ZZ.out; omega))
  replace HB := Aside0.mk hb2
  clear hz_BK3_0 hz_BK3_1 hz_BK3_2
  replace ZZ := Aside0.mk (And.intro ZZ.out (show w4_.heap.size ≤ w5_.heap.size from hk.1))
  have BK2 := Aside0.mk bo
  clear bo hk hb2
  have hz_BK3_0 : w5_.cell? ⟨g3_, 0, none⟩ = some (.int .i64 q0) := (blk_cell BK3.out 0).trans rfl
  have hz_BK3_1 : w5_.cell? ⟨g3_, 1, none⟩ = some (.int .i64 q1) := (blk_cell BK3.out 1).trans rfl
  have hz_BK3_2 : w5_.cell? ⟨g3_, 2, none⟩ = some (.slice A_WS W.length c_WS) := (blk_cell BK3.out 2).trans rfl
  go_wp2
  refine bodyPost_ret (results_cell_row rfl _ _ g2_ 29 #[.int .i64 5, .int .i64 0, .slice none 0 0, .int .i64 0, .int .i64 0, .slice none 0 0] (0, 0) _ rfl BK2.out Try.underlying29 rfl (by kernel_rfl)) rfl ?_
  exact ⟨none, 0, none, 0, rfl, Nat.le_refl _, Nat.le_refl _, SG.nil _ _ _ _ _ _, HB.out⟩
set_option maxHeartbeats 80000000 in
set_option maxRecDepth 100000 in
theorem spec_UnpackSign_A (ku : Nat) (A0 : Option Addr) (c0 : Nat) (l0 : List Int) (q0 q1 : Int) (W : List (List Int)) (w : World) (hr0 : Kd.C (Kd.int .u8) w A0 l0.length l0) (hc0 : l0.length ≤ c0) (h_u : spec_UnpackWords.f ku l0 = some (q0, q1, W)) (h_q : q0 = 0) (h_n : W.length < 20) :
    Calls Try.prog 24 #[.slice A0 l0.length c0] w (fun e w' => ∃ A c B d, e = .returned (.agg #[.int .i64 5, .int .i64 0, .slice A ([] : List (List Int)).length c, .int .i64 0, .int .i64 0, .slice B ([] : List (List Int)).length d]) ∧ ([] : List (List Int)).length ≤ c ∧ ([] : List (List Int)).length ≤ d ∧ SG w.heap.size w' w.heap.size w'.heap.size A ([] : List (List Int)) B ([] : List (List Int)) ∧ Below w.heap.size w w') := by
  have hu1_ := Try.underlying29
  have hu2_ := Try.underlying25
  have hu3_ := Try.underlying72
  have hu4_ := Try.underlying27
  have HR0 := Aside0.mk hr0
  have HC0 := Aside0.mk hc0
  have H_u := Aside0.mk h_u
  have H_q := Aside0.mk h_q
  have H_n := Aside0.mk h_n
  have HB := Aside0.mk (Below.refl w.heap.size w)
  have ZZ := Aside0.mk (Nat.le_refl w.heap.size)
  have cq0_ : (q0 == 0) = true := beq_iff_eq.2 h_q
  have cq1_ : (q0 != 0) = false := bne_eq_false_iff_eq.2 h_q
  have cn0_ : decide ((W.length : Int) < 20) = true := decide_eq_true (by omega)
  have cn1_ : decide (W.length < 20) = true := decide_eq_true h_n
  clear hr0 hc0 h_u h_q h_n
  go_enter Try.func24, Try.ntmps24
  go_wp2_with (first | ((with_reducible refine gate_dst (N := 2) rfl ?_); refine hold_here ?_))
  refine hold_go ?_
  refine box_event (N := 2) (cs := #[.int .i64 0, .int .i64 0, .slice none 0 0, .int .i64 0, .int .i64 0, .slice none 0 0]) (t := 29) ?hgb rfl ?hrb ?_
  case hgb => rfl
  case hrb => first | (go_simp; done) | (go_simp; rfl)
  intro g2_ hg w1_ hbox hb
  replace HB := Aside0.mk (below_step HB.out hb)
  replace ZZ := Aside0.mk (And.intro ZZ.out (show w.heap.size ≤ w1_.heap.size from hb.size))
  have BK2 := Aside0.mk hbox
  replace ZZ := Aside0.mk (And.intro ZZ.out (And.intro (show g2_ = w.heap.size from hg) (show g2_ < w1_.heap.size from blk_lt hbox)))
  clear hb hbox hg
  go_wp2_with (first | (go_at_call 52; refine hold_here ?_))
  refine hold_go ?_
  refine (spec_UnpackWords.calls _ A0 c0 l0 q0 q1 W _ ?s1 ?s2 H_u.out).mono ?_
  case s1 => exact Kd.C_below HR0.out HB.out
  case s2 => exact HC0.out
  rintro e w2_ ⟨v, rfl, ho, hb⟩
  replace BK2 := Aside0.mk (blk_below BK2.out hb)
  replace HB := Aside0.mk (below_step HB.out hb)
  replace ZZ := Aside0.mk (And.intro ZZ.out (show w1_.heap.size ≤ w2_.heap.size from hb.size))
  obtain ⟨A_WS, c_WS, ev_, hc_WS, hA_WS⟩ := AR_of_S (base := w.heap.size) ho (show w.heap.size ≤ w1_.heap.size from (by have h_ := ZZ.out; omega))
  subst ev_
  have HC_WS := Aside0.mk hc_WS
  have WS := Aside0.mk (show AR w.heap.size w2_ w1_.heap.size w2_.heap.size A_WS W from hA_WS)
  clear hc_WS hA_WS ho
  clear hb
  go_wp2_with (first | ((with_reducible refine gate_dst (N := 3) rfl ?_); refine hold_here ?_))
  refine hold_go ?_
  refine box_event (N := 3) (cs := #[.int .i64 0, .int .i64 0, .slice none 0 0]) (t := 72) ?hgb rfl ?hrb ?_
  case hgb => rfl
  case hrb => first | (go_simp; done) | (go_simp; rfl)
  intro g3_ hg w3_ hbox hb
  replace BK2 := Aside0.mk (blk_below BK2.out hb)
  replace WS := Aside0.mk (AR.below WS.out hb)
  replace HB := Aside0.mk (below_step HB.out hb)
  replace ZZ := Aside0.mk (And.intro ZZ.out (show w2_.heap.size ≤ w3_.heap.size from hb.size))
  have BK3 := Aside0.mk hbox
  replace ZZ := Aside0.mk (And.intro ZZ.out (And.intro (show g3_ = w2_.heap.size from hg) (show g3_ < w3_.heap.size from blk_lt hbox)))
  clear hb hbox hg
  have hz_BK3_0 : w3_.cell? ⟨g3_, 0, none⟩ = some (.int .i64 0) := (blk_cell BK3.out 0).trans rfl
  have hz_BK3_1 : w3_.cell? ⟨g3_, 1, none⟩ = some (.int .i64 0) := (blk_cell BK3.out 1).trans rfl
  have hz_BK3_2 : w3_.cell? ⟨g3_, 2, none⟩ = some (.slice none 0 0) := (blk_cell BK3.out 2).trans rfl
  go_wp2_with (first | ((with_reducible refine gate_store (t := 72) (p := 3) (v := .tmp 7) rfl ?_); refine hold_here ?_))
  refine hold_go ?_
  refine row_store rfl 72 (.tmp 3) (.tmp 7) rfl g3_ #[.int .i64 q0, .int .i64 q1, .slice A_WS W.length c_WS] rfl ?hy 72 _ BK3.out ?hi ?ho ?h1 rfl HB.out (show w.heap.size ≤ g3_ from (by have h_ := ZZ.out; omega)) ?_
  case hy => rfl
  case hi => kernel_rfl
  case ho => rfl
  case h1 => first | rfl | (simp [Value.oneCell']; done) | (go_simp; done)
  intro w4_ bo hk hb2
  clear BK3
  replace BK2 := Aside0.mk (blk_keptIn BK2.out hk (by have h_ := ZZ.out; omega))
  replace WS := Aside0.mk (AR.kept WS.out hk (by have h_ := ZZ.out; omega))
  replace HB := Aside0.mk hb2
  clear hz_BK3_0 hz_BK3_1 hz_BK3_2
  replace ZZ := Aside0.mk (And.intro ZZ.out (show w3_.heap.size ≤ w4_.heap.size from hk.1))
  have BK3 := Aside0.mk bo
  clear bo hk hb2
  have hz_BK3_0 : w4_.cell? ⟨g3_, 0, none⟩ = some (.int .i64 q0) := (blk_cell BK3.out 0).trans rfl
  have hz_BK3_1 : w4_.cell? ⟨g3_, 1, none⟩ = some (.int .i64 q1) := (blk_cell BK3.out 1).trans rfl
  have hz_BK3_2 : w4_.cell? ⟨g3_, 2, none⟩ = some (.slice A_WS W.length c_WS) := (blk_cell BK3.out 2).trans rfl
  go_wp2_with (first | ((with_reducible refine gate_store (t := 29) (p := 2) (v := .tmp 25) rfl ?_); refine hold_here ?_))
  refine hold_go ?_
  refine row_store rfl 29 (.tmp 2) (.tmp 25) rfl g2_ #[.int .i64 5, .int .i64 0, .slice none 0 0, .int .i64 0, .int .i64 0, .slice none 0 0] rfl ?hy 29 _ BK2.out ?hi ?ho ?h1 rfl HB.out (show w.heap.size ≤ g2_ from (by have h_ := ZZ.out; omega)) ?_
  case hy => rfl
  case hi => kernel_rfl
  case ho => rfl
  case h1 => first | rfl | (simp [Value.oneCell']; done) | (go_simp; done)
  intro w5_ bo hk hb2
  clear BK2
  replace WS := Aside0.mk (AR.kept WS.out hk (by have h_ := ZZ.out; omega))
  replace BK3 := Aside0.mk (blk_keptIn BK3.out hk (by have h_ := ZZ.out; omega))
  replace HB := Aside0.mk hb2
  clear hz_BK3_0 hz_BK3_1 hz_BK3_2
  replace ZZ := Aside0.mk (And.intro ZZ.out (show w4_.heap.size ≤ w5_.heap.size from hk.1))
  have BK2 := Aside0.mk bo
  clear bo hk hb2
  have hz_BK3_0 : w5_.cell? ⟨g3_, 0, none⟩ = some (.int .i64 q0) := (blk_cell BK3.out 0).trans rfl
  have hz_BK3_1 : w5_.cell? ⟨g3_, 1, none⟩ = some (.int .i64 q1) := (blk_cell BK3.out 1).trans rfl
  have hz_BK3_2 : w5_.cell? ⟨g3_, 2, none⟩ = some (.slice A_WS W.length c_WS) := (blk_cell BK3.out 2).trans rfl
  go_wp2
  refine bodyPost_ret (results_cell_row rfl _ _ g2_ 29 #[.int .i64 5, .int .i64 0, .slice none 0 0, .int .i64 0, .int .i64 0, .slice none 0 0] (0, 0) _ rfl BK2.out Try.underlying29 rfl (by kernel_rfl)) rfl ?_
  exact ⟨none, 0, none, 0, rfl, Nat.le_refl _, Nat.le_refl _, SG.nil _ _ _ _ _ _, HB.out⟩
set_option maxHeartbeats 80000000 in
set_option maxRecDepth 100000 in
theorem spec_UnpackSign_B (ku : Nat) (A0 : Option Addr) (c0 : Nat) (l0 : List Int) (q0 q1 : Int) (W : List (List Int)) (w : World) (hr0 : Kd.C (Kd.int .u8) w A0 l0.length l0) (hc0 : l0.length ≤ c0) (h_u : spec_UnpackWords.f ku l0 = some (q0, q1, W)) (h_q : q0 = 0) (h_n : 20 ≤ W.length) (h_b : W[0]!.length ≠ 1) :
    Calls Try.prog 24 #[.slice A0 l0.length c0] w (fun e w' => ∃ A c B d, e = .returned (.agg #[.int .i64 5, .int .i64 0, .slice A ([] : List (List Int)).length c, .int .i64 0, .int .i64 0, .slice B ([] : List (List Int)).length d]) ∧ ([] : List (List Int)).length ≤ c ∧ ([] : List (List Int)).length ≤ d ∧ SG w.heap.size w' w.heap.size w'.heap.size A ([] : List (List Int)) B ([] : List (List Int)) ∧ Below w.heap.size w w') := by
  have hu1_ := Try.underlying29
  have hu2_ := Try.underlying25
  have hu3_ := Try.underlying72
  have hu4_ := Try.underlying27
  have HR0 := Aside0.mk hr0
  have HC0 := Aside0.mk hc0
  have H_u := Aside0.mk h_u
  have H_q := Aside0.mk h_q
  have H_n := Aside0.mk h_n
  have H_b := Aside0.mk h_b
  have HB := Aside0.mk (Below.refl w.heap.size w)
  have ZZ := Aside0.mk (Nat.le_refl w.heap.size)
  have cq0_ : (q0 == 0) = true := beq_iff_eq.2 h_q
  have cq1_ : (q0 != 0) = false := bne_eq_false_iff_eq.2 h_q
  have cn0_ : decide ((W.length : Int) < 20) = false := decide_eq_false (by omega)
  have cn1_ : decide (W.length < 20) = false := decide_eq_false (by omega)
  have cn2_ : (0 < W.length) = True := eq_true (by omega)
  have cn4_ : ((0 : Int) < (W.length : Int)) = True := eq_true (by omega)
  have cn6_ : ((20 : Int) ≤ (W.length : Int)) = True := eq_true (by omega)
  have cn7_ : (20 ≤ W.length) = True := eq_true (by omega)
  clear hr0 hc0 h_u h_q h_n h_b
  go_enter Try.func24, Try.ntmps24
  go_wp2_with (first | ((with_reducible refine gate_dst (N := 2) rfl ?_); refine hold_here ?_))
  refine hold_go ?_
  refine box_event (N := 2) (cs := #[.int .i64 0, .int .i64 0, .slice none 0 0, .int .i64 0, .int .i64 0, .slice none 0 0]) (t := 29) ?hgb rfl ?hrb ?_
  case hgb => rfl
  case hrb => first | (go_simp; done) | (go_simp; rfl)
  intro g2_ hg w1_ hbox hb
  replace HB := Aside0.mk (below_step HB.out hb)
  replace ZZ := Aside0.mk (And.intro ZZ.out (show w.heap.size ≤ w1_.heap.size from hb.size))
  have BK2 := Aside0.mk hbox
  replace ZZ := Aside0.mk (And.intro ZZ.out (And.intro (show g2_ = w.heap.size from hg) (show g2_ < w1_.heap.size from blk_lt hbox)))
  clear hb hbox hg
  go_wp2_with (first | (go_at_call 52; refine hold_here ?_))
  refine hold_go ?_
  refine (spec_UnpackWords.calls _ A0 c0 l0 q0 q1 W _ ?s1 ?s2 H_u.out).mono ?_
  case s1 => exact Kd.C_below HR0.out HB.out
  case s2 => exact HC0.out
  rintro e w2_ ⟨v, rfl, ho, hb⟩
  replace BK2 := Aside0.mk (blk_below BK2.out hb)
  replace HB := Aside0.mk (below_step HB.out hb)
  replace ZZ := Aside0.mk (And.intro ZZ.out (show w1_.heap.size ≤ w2_.heap.size from hb.size))
  have hfo_ := Kd.S_form ho (by have := H_n.out; omega)
  obtain ⟨A_WS, c_WS, ev_, hc_WS, hA_WS⟩ := AR_of_S (base := w.heap.size) ho (show w.heap.size ≤ w1_.heap.size from (by have h_ := ZZ.out; omega))
  subst ev_
  have HC_WS := Aside0.mk hc_WS
  have WS := Aside0.mk (show AR w.heap.size w2_ w1_.heap.size w2_.heap.size A_WS W from hA_WS)
  clear hc_WS hA_WS ho
  obtain ⟨gw_, cw_, evw_, _⟩ := hfo_
  injection evw_ with eA_ _ eC_
  subst eA_ eC_
  clear hb
  go_wp2_with (first | ((with_reducible refine gate_dst (N := 3) rfl ?_); refine hold_here ?_))
  refine hold_go ?_
  refine box_event (N := 3) (cs := #[.int .i64 0, .int .i64 0, .slice none 0 0]) (t := 72) ?hgb rfl ?hrb ?_
  case hgb => rfl
  case hrb => first | (go_simp; done) | (go_simp; rfl)
  intro g3_ hg w3_ hbox hb
  replace BK2 := Aside0.mk (blk_below BK2.out hb)
  replace WS := Aside0.mk (AR.below WS.out hb)
  replace HB := Aside0.mk (below_step HB.out hb)
  replace ZZ := Aside0.mk (And.intro ZZ.out (show w2_.heap.size ≤ w3_.heap.size from hb.size))
  have BK3 := Aside0.mk hbox
  replace ZZ := Aside0.mk (And.intro ZZ.out (And.intro (show g3_ = w2_.heap.size from hg) (show g3_ < w3_.heap.size from blk_lt hbox)))
  clear hb hbox hg
  have hz_BK3_0 : w3_.cell? ⟨g3_, 0, none⟩ = some (.int .i64 0) := (blk_cell BK3.out 0).trans rfl
  have hz_BK3_1 : w3_.cell? ⟨g3_, 1, none⟩ = some (.int .i64 0) := (blk_cell BK3.out 1).trans rfl
  have hz_BK3_2 : w3_.cell? ⟨g3_, 2, none⟩ = some (.slice none 0 0) := (blk_cell BK3.out 2).trans rfl
  go_wp2_with (first | ((with_reducible refine gate_store (t := 72) (p := 3) (v := .tmp 7) rfl ?_); refine hold_here ?_))
  refine hold_go ?_
  refine row_store rfl 72 (.tmp 3) (.tmp 7) rfl g3_ #[.int .i64 q0, .int .i64 q1, .slice (some ⟨gw_, 0, none⟩) W.length c_WS] rfl ?hy 72 _ BK3.out ?hi ?ho ?h1 rfl HB.out (show w.heap.size ≤ g3_ from (by have h_ := ZZ.out; omega)) ?_
  case hy => rfl
  case hi => kernel_rfl
  case ho => rfl
  case h1 => first | rfl | (simp [Value.oneCell']; done) | (go_simp; done)
  intro w4_ bo hk hb2
  clear BK3
  replace BK2 := Aside0.mk (blk_keptIn BK2.out hk (by have h_ := ZZ.out; omega))
  replace WS := Aside0.mk (AR.kept WS.out hk (by have h_ := ZZ.out; omega))
  replace HB := Aside0.mk hb2
  clear hz_BK3_0 hz_BK3_1 hz_BK3_2
  replace ZZ := Aside0.mk (And.intro ZZ.out (show w3_.heap.size ≤ w4_.heap.size from hk.1))
  have BK3 := Aside0.mk bo
  clear bo hk hb2
  have hz_BK3_0 : w4_.cell? ⟨g3_, 0, none⟩ = some (.int .i64 q0) := (blk_cell BK3.out 0).trans rfl
  have hz_BK3_1 : w4_.cell? ⟨g3_, 1, none⟩ = some (.int .i64 q1) := (blk_cell BK3.out 1).trans rfl
  have hz_BK3_2 : w4_.cell? ⟨g3_, 2, none⟩ = some (.slice (some ⟨gw_, 0, none⟩) W.length c_WS) := (blk_cell BK3.out 2).trans rfl
  obtain ⟨ad_, B0_, d0_, eA_, hx0_, hl0_, hi0_⟩ := word_at (Kd.F_now (AR.foot WS.out)) 0 (by have := H_n.out; omega)
  obtain rfl := Option.some.inj eA_
  rw [Addr.add_zero'] at hx0_
  obtain ⟨n0_, hn0_⟩ : ∃ n, W[0]!.length = n := ⟨_, rfl⟩
  rw [hn0_] at hx0_
  have cb_ : ((n0_ : Int) != 1) = true := bne_iff_ne.2 (by have := H_b.out; omega)
  clear hn0_ hl0_ hi0_
  go_wp2_with (first | ((with_reducible refine gate_store (t := 29) (p := 2) (v := .tmp 25) rfl ?_); refine hold_here ?_))
  refine hold_go ?_
  refine row_store rfl 29 (.tmp 2) (.tmp 25) rfl g2_ #[.int .i64 5, .int .i64 0, .slice none 0 0, .int .i64 0, .int .i64 0, .slice none 0 0] rfl ?hy 29 _ BK2.out ?hi ?ho ?h1 rfl HB.out (show w.heap.size ≤ g2_ from (by have h_ := ZZ.out; omega)) ?_
  case hy => rfl
  case hi => kernel_rfl
  case ho => rfl
  case h1 => first | rfl | (simp [Value.oneCell']; done) | (go_simp; done)
  intro w5_ bo hk hb2
  clear BK2
  replace WS := Aside0.mk (AR.kept WS.out hk (by have h_ := ZZ.out; omega))
  replace BK3 := Aside0.mk (blk_keptIn BK3.out hk (by have h_ := ZZ.out; omega))
  replace HB := Aside0.mk hb2
  clear hz_BK3_0 hz_BK3_1 hz_BK3_2
  replace ZZ := Aside0.mk (And.intro ZZ.out (show w4_.heap.size ≤ w5_.heap.size from hk.1))
  have BK2 := Aside0.mk bo
  clear bo hk hb2
  have hz_BK3_0 : w5_.cell? ⟨g3_, 0, none⟩ = some (.int .i64 q0) := (blk_cell BK3.out 0).trans rfl
  have hz_BK3_1 : w5_.cell? ⟨g3_, 1, none⟩ = some (.int .i64 q1) := (blk_cell BK3.out 1).trans rfl
  have hz_BK3_2 : w5_.cell? ⟨g3_, 2, none⟩ = some (.slice (some ⟨gw_, 0, none⟩) W.length c_WS) := (blk_cell BK3.out 2).trans rfl
  go_wp2
  refine bodyPost_ret (results_cell_row rfl _ _ g2_ 29 #[.int .i64 5, .int .i64 0, .slice none 0 0, .int .i64 0, .int .i64 0, .slice none 0 0] (0, 0) _ rfl BK2.out Try.underlying29 rfl (by kernel_rfl)) rfl ?_
  exact ⟨none, 0, none, 0, rfl, Nat.le_refl _, Nat.le_refl _, SG.nil _ _ _ _ _ _, HB.out⟩
set_option maxHeartbeats 80000000 in
set_option maxRecDepth 100000 in
theorem spec_UnpackSign_D (ku : Nat) (A0 : Option Addr) (c0 : Nat) (l0 : List Int) (q0 q1 : Int) (W : List (List Int)) (x : Int) (ps ls : List (List Int)) (kq : Nat) (w : World) (hr0 : Kd.C (Kd.int .u8) w A0 l0.length l0) (hc0 : l0.length ≤ c0) (h_u : spec_UnpackWords.f ku l0 = some (q0, q1, W)) (h_q : q0 = 0) (h_n : 20 ≤ W.length) (h_x : W[0]! = [x]) (h_bx : 0 ≤ x ∧ x ≤ 255) (h_ps : (W.take 20).drop 1 = ps) (h_ls : W.drop 20 = ls) (h_p : spec_l4Right.f kq x ps x 4 ls = some true) :
    Calls Try.prog 24 #[.slice A0 l0.length c0] w (fun e w' => ∃ A c B d, e = .returned (.agg #[.int .i64 0, .int .i64 x, .slice A ps.length c, .int .i64 x, .int .i64 4, .slice B ls.length d]) ∧ ps.length ≤ c ∧ ls.length ≤ d ∧ SG w.heap.size w' w.heap.size w'.heap.size A ps B ls ∧ Below w.heap.size w w') := by
  have hu1_ := Try.underlying29
  have hu2_ := Try.underlying25
  have hu3_ := Try.underlying72
  have hu4_ := Try.underlying27
  have HR0 := Aside0.mk hr0
  have HC0 := Aside0.mk hc0
  have H_u := Aside0.mk h_u
  have H_q := Aside0.mk h_q
  have H_n := Aside0.mk h_n
  have H_x := Aside0.mk h_x
  have H_bx := Aside0.mk h_bx
  have H_ps := Aside0.mk h_ps
  have H_ls := Aside0.mk h_ls
  have H_p := Aside0.mk h_p
  have HB := Aside0.mk (Below.refl w.heap.size w)
  have ZZ := Aside0.mk (Nat.le_refl w.heap.size)
  have cq0_ : (q0 == 0) = true := beq_iff_eq.2 h_q
  have cq1_ : (q0 != 0) = false := bne_eq_false_iff_eq.2 h_q
  have cn0_ : decide ((W.length : Int) < 20) = false := decide_eq_false (by omega)
  have cn1_ : decide (W.length < 20) = false := decide_eq_false (by omega)
  have cn2_ : (0 < W.length) = True := eq_true (by omega)
  have cn4_ : ((0 : Int) < (W.length : Int)) = True := eq_true (by omega)
  have cn6_ : ((20 : Int) ≤ (W.length : Int)) = True := eq_true (by omega)
  have cn7_ : (20 ≤ W.length) = True := eq_true (by omega)
  clear hr0 hc0 h_u h_q h_n h_x h_bx h_ps h_ls h_p
  go_enter Try.func24, Try.ntmps24
  go_wp2_with (first | ((with_reducible refine gate_dst (N := 2) rfl ?_); refine hold_here ?_))
  refine hold_go ?_
  refine box_event (N := 2) (cs := #[.int .i64 0, .int .i64 0, .slice none 0 0, .int .i64 0, .int .i64 0, .slice none 0 0]) (t := 29) ?hgb rfl ?hrb ?_
  case hgb => rfl
  case hrb => first | (go_simp; done) | (go_simp; rfl)
  intro g2_ hg w1_ hbox hb
  replace HB := Aside0.mk (below_step HB.out hb)
  replace ZZ := Aside0.mk (And.intro ZZ.out (show w.heap.size ≤ w1_.heap.size from hb.size))
  have BK2 := Aside0.mk hbox
  replace ZZ := Aside0.mk (And.intro ZZ.out (And.intro (show g2_ = w.heap.size from hg) (show g2_ < w1_.heap.size from blk_lt hbox)))
  clear hb hbox hg
  go_wp2_with (first | (go_at_call 52; refine hold_here ?_))
  refine hold_go ?_
  refine (spec_UnpackWords.calls _ A0 c0 l0 q0 q1 W _ ?s1 ?s2 H_u.out).mono ?_
  case s1 => exact Kd.C_below HR0.out HB.out
  case s2 => exact HC0.out
  rintro e w2_ ⟨v, rfl, ho, hb⟩
  replace BK2 := Aside0.mk (blk_below BK2.out hb)
  replace HB := Aside0.mk (below_step HB.out hb)
  replace ZZ := Aside0.mk (And.intro ZZ.out (show w1_.heap.size ≤ w2_.heap.size from hb.size))
  have hfo_ := Kd.S_form ho (by have := H_n.out; omega)
  obtain ⟨A_WS, c_WS, ev_, hc_WS, hA_WS⟩ := AR_of_S (base := w.heap.size) ho (show w.heap.size ≤ w1_.heap.size from (by have h_ := ZZ.out; omega))
  subst ev_
  have HC_WS := Aside0.mk hc_WS
  have WS := Aside0.mk (show AR w.heap.size w2_ w1_.heap.size w2_.heap.size A_WS W from hA_WS)
  clear hc_WS hA_WS ho
  obtain ⟨gw_, cw_, evw_, _⟩ := hfo_
  injection evw_ with eA_ _ eC_
  subst eA_ eC_
  clear hb
  go_wp2_with (first | ((with_reducible refine gate_dst (N := 3) rfl ?_); refine hold_here ?_))
  refine hold_go ?_
  refine box_event (N := 3) (cs := #[.int .i64 0, .int .i64 0, .slice none 0 0]) (t := 72) ?hgb rfl ?hrb ?_
  case hgb => rfl
  case hrb => first | (go_simp; done) | (go_simp; rfl)
  intro g3_ hg w3_ hbox hb
  replace BK2 := Aside0.mk (blk_below BK2.out hb)
  replace WS := Aside0.mk (AR.below WS.out hb)
  replace HB := Aside0.mk (below_step HB.out hb)
  replace ZZ := Aside0.mk (And.intro ZZ.out (show w2_.heap.size ≤ w3_.heap.size from hb.size))
  have BK3 := Aside0.mk hbox
  replace ZZ := Aside0.mk (And.intro ZZ.out (And.intro (show g3_ = w2_.heap.size from hg) (show g3_ < w3_.heap.size from blk_lt hbox)))
  clear hb hbox hg
  have hz_BK3_0 : w3_.cell? ⟨g3_, 0, none⟩ = some (.int .i64 0) := (blk_cell BK3.out 0).trans rfl
  have hz_BK3_1 : w3_.cell? ⟨g3_, 1, none⟩ = some (.int .i64 0) := (blk_cell BK3.out 1).trans rfl
  have hz_BK3_2 : w3_.cell? ⟨g3_, 2, none⟩ = some (.slice none 0 0) := (blk_cell BK3.out 2).trans rfl
  go_wp2_with (first | ((with_reducible refine gate_store (t := 72) (p := 3) (v := .tmp 7) rfl ?_); refine hold_here ?_))
  refine hold_go ?_
  refine row_store rfl 72 (.tmp 3) (.tmp 7) rfl g3_ #[.int .i64 q0, .int .i64 q1, .slice (some ⟨gw_, 0, none⟩) W.length c_WS] rfl ?hy 72 _ BK3.out ?hi ?ho ?h1 rfl HB.out (show w.heap.size ≤ g3_ from (by have h_ := ZZ.out; omega)) ?_
  case hy => rfl
  case hi => kernel_rfl
  case ho => rfl
  case h1 => first | rfl | (simp [Value.oneCell']; done) | (go_simp; done)
  intro w4_ bo hk hb2
  clear BK3
  replace BK2 := Aside0.mk (blk_keptIn BK2.out hk (by have h_ := ZZ.out; omega))
  replace WS := Aside0.mk (AR.kept WS.out hk (by have h_ := ZZ.out; omega))
  replace HB := Aside0.mk hb2
  clear hz_BK3_0 hz_BK3_1 hz_BK3_2
  replace ZZ := Aside0.mk (And.intro ZZ.out (show w3_.heap.size ≤ w4_.heap.size from hk.1))
  have BK3 := Aside0.mk bo
  clear bo hk hb2
  have hz_BK3_0 : w4_.cell? ⟨g3_, 0, none⟩ = some (.int .i64 q0) := (blk_cell BK3.out 0).trans rfl
  have hz_BK3_1 : w4_.cell? ⟨g3_, 1, none⟩ = some (.int .i64 q1) := (blk_cell BK3.out 1).trans rfl
  have hz_BK3_2 : w4_.cell? ⟨g3_, 2, none⟩ = some (.slice (some ⟨gw_, 0, none⟩) W.length c_WS) := (blk_cell BK3.out 2).trans rfl
  obtain ⟨ad_, B0_, d0_, eA_, hx0_, hl0_, hi0_⟩ := word_at (Kd.F_now (AR.foot WS.out)) 0 (by have := H_n.out; omega)
  obtain rfl := Option.some.inj eA_
  rw [Addr.add_zero'] at hx0_
  rw [H_x.out] at hx0_ hi0_
  simp only [List.length_cons, List.length_nil, Nat.zero_add] at hx0_ hi0_
  obtain ⟨b0_, e0_, hv0_⟩ := byte_at hi0_
  subst e0_
  clear hi0_ hl0_
  have HWX := Aside0.mk (w64 (n := x) (by have := H_bx.out; omega) (by have := H_bx.out; omega))
  have hfe_0 := fun (a0 a1 : Value) (w : World) => (show (Instr.field 42 (.agg #[a0, a1]) 0).run Try.prog w = .ok a0 w from by kernel_rfl)
  try go_wp2_with fail
  replace BK2 := Aside0.mk (blk_drew BK2.out)
  replace WS := Aside0.mk (AR.drew WS.out)
  replace BK3 := Aside0.mk (blk_drew BK3.out)
  replace HB := Aside0.mk (below_drew1 HB.out)
  replace ZZ := Aside0.mk (And.intro ZZ.out (show w4_.heap.size ≤ w4_.drew.heap.size from Nat.le_refl _))
  clear hz_BK3_0 hz_BK3_1 hz_BK3_2
  refine start_ (n := 11) (S := fun w' => w'.cell? (⟨gw_, 0, none⟩) = some (.slice (some b0_) 1 d0_) ∧ w'.cell? (b0_) = some (.int .u8 x)) (ds := [10]) #[false, false, false, false, false, false, false, false, false, false, false] (by kernel_rfl) rfl rfl ⟨hx0_, hv0_⟩ (fun hHeld => ?_)
  generalize w4_.drew = w5_ at BK2 WS BK3 HB ZZ hHeld ⊢
  clear hx0_ hv0_
  have hS_ := SG.cuts WS.out 1 20 c_WS (by decide) H_n.out HC_WS.out
  rw [H_ps.out, H_ls.out, if_neg (show ¬ c_WS = 1 by have := HC_WS.out; have := H_n.out; omega)] at hS_
  obtain ⟨A_L, eAL_⟩ : ∃ A : Option Addr, (if c_WS = 20 then some ⟨gw_, 0, none⟩ else some ⟨gw_, 20, none⟩) = A := ⟨_, rfl⟩
  rw [show (if c_WS = 20 then (some (⟨gw_, 0, none⟩ : Addr)) else (some (⟨gw_, 0, none⟩ : Addr)).map (·.add 20)) = A_L from eAL_] at hS_
  obtain ⟨c_L, eCL_⟩ : ∃ c, c_WS - 20 = c := ⟨_, rfl⟩
  obtain ⟨c_P, eCP_⟩ : ∃ c, c_WS - 1 = c := ⟨_, rfl⟩
  have hdl_ := congrArg List.length H_ls.out
  have hdp_ := congrArg List.length H_ps.out
  rw [List.length_drop] at hdl_
  rw [List.length_drop, List.length_take] at hdp_
  have HC_L := Aside0.mk (show ls.length ≤ c_L by have := HC_WS.out; omega)
  have HPL := Aside0.mk (show 19 = ps.length by have := H_n.out; omega)
  have PS := Aside0.mk (show SG _ _ _ _ (some ⟨gw_, 1, none⟩) ps A_L ls from hS_)
  have EAL := Aside0.mk eAL_
  have ECL := Aside0.mk eCL_
  have ECP := Aside0.mk eCP_
  have HC_P := Aside0.mk (show ps.length ≤ c_P by have := HC_WS.out; omega)
  have EDL := Aside0.mk hdl_
  clear hS_ eAL_ eCL_ eCP_ hdl_ hdp_
  refine pure_ (i := 0) (N := some 26) (v := ?_) (a' := ?_) #[true, false, false, false, false, false, false, false, false, false, false] rfl rfl (by kernel_rfl) (fun _ _ _ h => h) (Or.inl ⟨by rfl, ?_⟩) ?_ ?_
  rotate_left
  · intro w'
    go_simp
    with_reducible rfl
  rotate_left
  · simp only [Act.put, List.setIfInBounds_toArray, List.set_cons_zero, List.set_cons_succ, i64_w, i32_w]
    rfl
  refine pure_ (i := 1) (N := some 27) (v := ?_) (a' := ?_) #[true, true, false, false, false, false, false, false, false, false, false] rfl rfl (by kernel_rfl) (fun _ _ _ h => h) (Or.inl ⟨by rfl, ?_⟩) ?_ ?_
  rotate_left
  · intro w'
    go_simp
    with_reducible rfl
  rotate_left
  · simp only [Act.put, List.setIfInBounds_toArray, List.set_cons_zero, List.set_cons_succ, i64_w, i32_w]
    rfl
  refine take_ (i := 2) (N := some 28) (v := ?_) (a' := ?_) #[true, true, true, false, false, false, false, false, false, false, false] rfl rfl (by kernel_rfl) (fun _ _ _ h => h) (Or.inl ⟨by rfl, ?_⟩) hHeld ?_ ?_
  rotate_left
  · rintro w' ⟨s0, s1⟩
    go_simp
    with_reducible rfl
  rotate_left
  · simp only [Act.put, List.setIfInBounds_toArray, List.set_cons_zero, List.set_cons_succ, i64_w, i32_w]
    rfl
  refine pure_ (i := 3) (N := some 29) (v := ?_) (a' := ?_) #[true, true, true, true, false, false, false, false, false, false, false] rfl rfl (by kernel_rfl) (fun _ _ _ h => h) (Or.inl ⟨by rfl, ?_⟩) ?_ ?_
  rotate_left
  · intro w'
    go_simp
    with_reducible rfl
  rotate_left
  · simp only [Act.put, List.setIfInBounds_toArray, List.set_cons_zero, List.set_cons_succ, i64_w, i32_w]
    rfl
  refine take_ (i := 4) (N := some 30) (v := ?_) (a' := ?_) #[true, true, true, true, true, false, false, false, false, false, false] rfl rfl (by kernel_rfl) (fun _ _ _ h => h) (Or.inl ⟨by rfl, ?_⟩) hHeld ?_ ?_
  rotate_left
  · rintro w' ⟨s0, s1⟩
    go_simp
    with_reducible rfl
  rotate_left
  · simp only [Act.put, List.setIfInBounds_toArray, List.set_cons_zero, List.set_cons_succ, i64_w, i32_w]
    rfl
  refine pure_ (i := 5) (N := some 31) (v := .int .i64 x) (a' := ?_) #[true, true, true, true, true, true, false, false, false, false, false] rfl rfl (by kernel_rfl) (fun _ _ _ h => h) (Or.inl ⟨by rfl, ?_⟩) ?_ ?_
  · intro w'
    go_simp
    first | done | (simp only [i64_w, HWX.out]; done) | rw [i64_w, HWX.out]
  rotate_left
  · simp only [Act.put, List.setIfInBounds_toArray, List.set_cons_zero, List.set_cons_succ, i64_w, i32_w]
    rfl
  refine pure_ (i := 6) (N := some 32) (v := ?_) (a' := ?_) #[true, true, true, true, true, true, true, false, false, false, false] rfl rfl (by kernel_rfl) (fun _ _ _ h => h) (Or.inl ⟨by rfl, ?_⟩) ?_ ?_
  rotate_left
  · intro w'
    go_simp
    with_reducible rfl
  rotate_left
  · simp only [Act.put, List.setIfInBounds_toArray, List.set_cons_zero, List.set_cons_succ, i64_w, i32_w]
    rfl
  refine pure_ (i := 7) (N := some 33) (v := .slice (some ⟨gw_, 1, none⟩) ps.length c_P) (a' := ?_) #[true, true, true, true, true, true, true, true, false, false, false] rfl rfl (by kernel_rfl) (fun _ _ _ h => h) (Or.inl ⟨by rfl, ?_⟩) ?_ ?_
  · intro w'
    go_simp
    rw [if_pos (show (20 : Int) ≤ (c_WS : Int) by have := HC_WS.out; have := H_n.out; omega), ← HPL.out, if_neg (show ¬ c_WS = 1 by have := HC_WS.out; have := H_n.out; omega), ECP.out]
  rotate_left
  · simp only [Act.put, List.setIfInBounds_toArray, List.set_cons_zero, List.set_cons_succ, i64_w, i32_w]
    rfl
  refine pure_ (i := 8) (N := some 34) (v := ?_) (a' := ?_) #[true, true, true, true, true, true, true, true, true, false, false] rfl rfl (by kernel_rfl) (fun _ _ _ h => h) (Or.inl ⟨by rfl, ?_⟩) ?_ ?_
  rotate_left
  · intro w'
    go_simp
    with_reducible rfl
  rotate_left
  · simp only [Act.put, List.setIfInBounds_toArray, List.set_cons_zero, List.set_cons_succ, i64_w, i32_w]
    rfl
  refine one_ (i := 9) (N := some 5) #[true, true, true, true, true, true, true, true, true, true, false] rfl rfl (by kernel_rfl) (by decide) (fun K hK => ?_)
  refine box_stepK (cs := #[.int .i64 0, .slice none 0 0, .int .i64 0, .int .i64 0, .slice none 0 0]) (t := 27) (by rfl) rfl ?hr ?_
  case hr => first | (go_simp; done) | (go_simp; rfl)
  intro g5_ hg w6_ hbox hb
  have hS_ : (fun w' : World => w'.cell? (⟨gw_, 0, none⟩) = some (.slice (some b0_) 1 d0_) ∧ w'.cell? (b0_) = some (.int .u8 x)) w6_ := by
    obtain ⟨s0, s1⟩ := hHeld
    exact ⟨(hb.cell (World.block_lt_of_cell? _ _ s0)).trans s0, (hb.cell (World.block_lt_of_cell? _ _ s1)).trans s1⟩
  replace BK2 := Aside0.mk (blk_below BK2.out hb)
  replace BK3 := Aside0.mk (blk_below BK3.out hb)
  replace PS := Aside0.mk (SG.below PS.out hb)
  replace HB := Aside0.mk (below_step HB.out hb)
  replace ZZ := Aside0.mk (And.intro ZZ.out (show w5_.heap.size ≤ w6_.heap.size from hb.size))
  have BK5 := Aside0.mk hbox
  replace ZZ := Aside0.mk (And.intro ZZ.out (And.intro (show g5_ = w5_.heap.size from hg) (show g5_ < w6_.heap.size from blk_lt hbox)))
  clear hb hbox hg
  refine hK.out _ _ hS_ (fun hHeld2 => ?_)
  clear hK K hHeld hS_
  have hHeld := hHeld2
  clear hHeld2
  refine norm_ (a' := ?_) ?_ ?_
  rotate_left
  · show Act.put _ (some 5) _ = _
    simp only [Act.put, List.setIfInBounds_toArray, List.set_cons_zero, List.set_cons_succ, i64_w, i32_w]
    rfl
  refine last_ (i := 10) (N := none) #[true, true, true, true, true, true, true, true, true, true, true] rfl rfl (by kernel_rfl) (by decide) (fun K hK => ?_)
  refine row_stepK (by rfl) 27 (.tmp 5) (.tmp 34) rfl g5_ #[.int .i64 x, .slice (some ⟨gw_, 1, none⟩) ps.length c_P, .int .i64 0, .int .i64 0, .slice none 0 0] rfl ?hy 27 _ BK5.out ?hi ?ho ?h1 rfl HB.out (show w.heap.size ≤ g5_ from (by have h_ := ZZ.out; omega)) ?_
  case hy => rfl
  case hi => kernel_rfl
  case ho => rfl
  case h1 => first | rfl | (simp [Value.oneCell']; done) | (go_simp; done)
  clear hHeld
  intro w7_ bo hk hb2
  clear BK5
  replace BK2 := Aside0.mk (blk_keptIn BK2.out hk (by have h_ := ZZ.out; omega))
  replace BK3 := Aside0.mk (blk_keptIn BK3.out hk (by have h_ := ZZ.out; omega))
  replace PS := Aside0.mk (SG.kept PS.out hk (by have h_ := ZZ.out; omega))
  replace HB := Aside0.mk hb2
  replace ZZ := Aside0.mk (And.intro ZZ.out (show w6_.heap.size ≤ w7_.heap.size from hk.1))
  have BK5 := Aside0.mk bo
  clear bo hk hb2
  refine hK.out _ _ ?_
  clear hK K
  refine done_ (by kernel_rfl) ?_
  have hz_BK3_0 : w7_.cell? ⟨g3_, 0, none⟩ = some (.int .i64 q0) := (blk_cell BK3.out 0).trans rfl
  have hz_BK3_1 : w7_.cell? ⟨g3_, 1, none⟩ = some (.int .i64 q1) := (blk_cell BK3.out 1).trans rfl
  have hz_BK3_2 : w7_.cell? ⟨g3_, 2, none⟩ = some (.slice (some ⟨gw_, 0, none⟩) W.length c_WS) := (blk_cell BK3.out 2).trans rfl
  have hz_BK5_0 : w7_.cell? ⟨g5_, 0, none⟩ = some (.int .i64 x) := (blk_cell BK5.out 0).trans rfl
  have hz_BK5_1 : w7_.cell? ⟨g5_, 1, none⟩ = some (.slice (some ⟨gw_, 1, none⟩) ps.length c_P) := (blk_cell BK5.out 1).trans rfl
  have hz_BK5_2 : w7_.cell? ⟨g5_, 2, none⟩ = some (.int .i64 0) := (blk_cell BK5.out 2).trans rfl
  have hz_BK5_3 : w7_.cell? ⟨g5_, 3, none⟩ = some (.int .i64 0) := (blk_cell BK5.out 3).trans rfl
  have hz_BK5_4 : w7_.cell? ⟨g5_, 4, none⟩ = some (.slice none 0 0) := (blk_cell BK5.out 4).trans rfl
  try go_wp2_with fail
  replace BK2 := Aside0.mk (blk_drew BK2.out)
  replace BK3 := Aside0.mk (blk_drew BK3.out)
  replace PS := Aside0.mk (SG.drew PS.out)
  replace BK5 := Aside0.mk (blk_drew BK5.out)
  replace HB := Aside0.mk (below_drew1 HB.out)
  replace ZZ := Aside0.mk (And.intro ZZ.out (show w7_.heap.size ≤ w7_.drew.heap.size from Nat.le_refl _))
  clear hz_BK3_0 hz_BK3_1 hz_BK3_2 hz_BK5_0 hz_BK5_1 hz_BK5_2 hz_BK5_3 hz_BK5_4
  refine start_ (n := 7) (S := fun w' => w'.cell? (⟨g5_, 0, none⟩) = some (.int .i64 x)) (ds := [6]) #[false, false, false, false, false, false, false] (by kernel_rfl) rfl rfl (show w7_.drew.cell? (⟨g5_, 0, none⟩) = some (.int .i64 x) from (blk_cell BK5.out 0).trans rfl) (fun hHeld => ?_)
  generalize w7_.drew = w8_ at BK2 BK3 PS BK5 HB ZZ hHeld ⊢
  refine pure_ (i := 0) (N := some 35) (v := ?_) (a' := ?_) #[true, false, false, false, false, false, false] rfl rfl (by kernel_rfl) (fun _ _ _ h => h) (Or.inl ⟨by rfl, ?_⟩) ?_ ?_
  rotate_left
  · intro w'
    go_simp
    with_reducible rfl
  rotate_left
  · simp only [Act.put, List.setIfInBounds_toArray, List.set_cons_zero, List.set_cons_succ, i64_w, i32_w]
    rfl
  refine take_ (i := 1) (N := some 36) (v := ?_) (a' := ?_) #[true, true, false, false, false, false, false] rfl rfl (by kernel_rfl) (fun _ _ _ h => h) (Or.inl ⟨by rfl, ?_⟩) hHeld ?_ ?_
  rotate_left
  · rintro w' s0
    go_simp
    with_reducible rfl
  rotate_left
  · simp only [Act.put, List.setIfInBounds_toArray, List.set_cons_zero, List.set_cons_succ, i64_w, i32_w]
    rfl
  refine pure_ (i := 2) (N := some 37) (v := ?_) (a' := ?_) #[true, true, true, false, false, false, false] rfl rfl (by kernel_rfl) (fun _ _ _ h => h) (Or.inl ⟨by rfl, ?_⟩) ?_ ?_
  rotate_left
  · intro w'
    go_simp
    with_reducible rfl
  rotate_left
  · simp only [Act.put, List.setIfInBounds_toArray, List.set_cons_zero, List.set_cons_succ, i64_w, i32_w]
    rfl
  refine pure_ (i := 3) (N := some 38) (v := .slice A_L ls.length c_L) (a' := ?_) #[true, true, true, true, false, false, false] rfl rfl (by kernel_rfl) (fun _ _ _ h => h) (Or.inl ⟨by rfl, ?_⟩) ?_ ?_
  · intro w'
    go_simp
    exact ⟨EAL.out, EDL.out, ECL.out⟩
  rotate_left
  · simp only [Act.put, List.setIfInBounds_toArray, List.set_cons_zero, List.set_cons_succ, i64_w, i32_w]
    rfl
  refine pure_ (i := 4) (N := some 39) (v := ?_) (a' := ?_) #[true, true, true, true, true, false, false] rfl rfl (by kernel_rfl) (fun _ _ _ h => h) (Or.inl ⟨by rfl, ?_⟩) ?_ ?_
  rotate_left
  · intro w'
    go_simp
    with_reducible rfl
  rotate_left
  · simp only [Act.put, List.setIfInBounds_toArray, List.set_cons_zero, List.set_cons_succ, i64_w, i32_w]
    rfl
  refine pure_ (i := 5) (N := some 40) (v := ?_) (a' := ?_) #[true, true, true, true, true, true, false] rfl rfl (by kernel_rfl) (fun _ _ _ h => h) (Or.inl ⟨by rfl, ?_⟩) ?_ ?_
  rotate_left
  · intro w'
    go_simp
    with_reducible rfl
  rotate_left
  · simp only [Act.put, List.setIfInBounds_toArray, List.set_cons_zero, List.set_cons_succ, i64_w, i32_w]
    rfl
  clear hHeld
  refine last_ (i := 6) (N := none) #[true, true, true, true, true, true, true] rfl rfl (by kernel_rfl) (by decide) (fun K hK => ?_)
  have hz0_ : w8_.cell? ⟨g5_, 0, none⟩ = some (.int .i64 x) := (blk_cell BK5.out 0).trans rfl
  have hf0_ := blk_frozen BK5.out 0
  have hz1_ : w8_.cell? ⟨g5_, 1, none⟩ = some (.slice (some ⟨gw_, 1, none⟩) ps.length c_P) := (blk_cell BK5.out 1).trans rfl
  have hf1_ := blk_frozen BK5.out 1
  have hz2_ : w8_.cell? ⟨g5_, 2, none⟩ = some (.int .i64 0) := (blk_cell BK5.out 2).trans rfl
  have hf2_ := blk_frozen BK5.out 2
  have hz3_ : w8_.cell? ⟨g5_, 3, none⟩ = some (.int .i64 0) := (blk_cell BK5.out 3).trans rfl
  have hf3_ := blk_frozen BK5.out 3
  have hz4_ : w8_.cell? ⟨g5_, 4, none⟩ = some (.slice none 0 0) := (blk_cell BK5.out 4).trans rfl
  have hf4_ := blk_frozen BK5.out 4
  refine skip_ (w1 := ?_) (by rfl) rfl ?_ ?_
  rotate_left
  · go_simp
    rfl
  clear hz0_ hf0_ hz1_ hf1_ hz2_ hf2_ hz3_ hf3_ hz4_ hf4_
  have hge_ : w.heap.size ≤ g5_ := (by have h_ := ZZ.out; omega)
  have hin_ : In g5_ (g5_ + 1) g5_ := ⟨Nat.le_refl _, Nat.lt_succ_self _⟩
  have bo : (((w8_.setCell ⟨g5_, 2, none⟩ (.int .i64 x)).setCell ⟨g5_, 3, none⟩ (.int .i64 4)).setCell ⟨g5_, 4, none⟩ (.slice A_L ls.length c_L)).heap[g5_]? = some (.cells #[.int .i64 x, .slice (some ⟨gw_, 1, none⟩) ps.length c_P, .int .i64 x, .int .i64 4, .slice A_L ls.length c_L] 27 (0, 0)) := (blk_put (cs := #[.int .i64 x, .slice (some ⟨gw_, 1, none⟩) ps.length c_P, .int .i64 x, .int .i64 4, .slice none 0 0]) (blk_put (cs := #[.int .i64 x, .slice (some ⟨gw_, 1, none⟩) ps.length c_P, .int .i64 x, .int .i64 0, .slice none 0 0]) (blk_put (cs := #[.int .i64 x, .slice (some ⟨gw_, 1, none⟩) ps.length c_P, .int .i64 0, .int .i64 0, .slice none 0 0]) BK5.out 2 (.int .i64 x) rfl) 3 (.int .i64 4) rfl) 4 (.slice A_L ls.length c_L) rfl)
  have hk : Kept w8_ (((w8_.setCell ⟨g5_, 2, none⟩ (.int .i64 x)).setCell ⟨g5_, 3, none⟩ (.int .i64 4)).setCell ⟨g5_, 4, none⟩ (.slice A_L ls.length c_L)) (In g5_ (g5_ + 1)) := (Kept.setCell (Kept.setCell (Kept.setCell (Kept.refl _ _) (.inl hin_) _) (.inl hin_) _) (.inl hin_) _)
  have hb2 : Below w.heap.size w (((w8_.setCell ⟨g5_, 2, none⟩ (.int .i64 x)).setCell ⟨g5_, 3, none⟩ (.int .i64 4)).setCell ⟨g5_, 4, none⟩ (.slice A_L ls.length c_L)) := (below_set (below_set (below_set HB.out hge_) hge_) hge_)
  refine hK.out _ _ ?_
  clear hK K hge_ hin_
  generalize (((w8_.setCell ⟨g5_, 2, none⟩ (.int .i64 x)).setCell ⟨g5_, 3, none⟩ (.int .i64 4)).setCell ⟨g5_, 4, none⟩ (.slice A_L ls.length c_L)) = w9_ at bo hk hb2 ⊢
  clear BK5
  replace BK2 := Aside0.mk (blk_keptIn BK2.out hk (by have h_ := ZZ.out; omega))
  replace BK3 := Aside0.mk (blk_keptIn BK3.out hk (by have h_ := ZZ.out; omega))
  replace PS := Aside0.mk (SG.kept PS.out hk (by have h_ := ZZ.out; omega))
  replace HB := Aside0.mk hb2
  replace ZZ := Aside0.mk (And.intro ZZ.out (show w8_.heap.size ≤ w9_.heap.size from hk.1))
  have BK5 := Aside0.mk bo
  clear bo hk hb2
  refine done_ (by kernel_rfl) ?_
  have hz_BK3_0 : w9_.cell? ⟨g3_, 0, none⟩ = some (.int .i64 q0) := (blk_cell BK3.out 0).trans rfl
  have hz_BK3_1 : w9_.cell? ⟨g3_, 1, none⟩ = some (.int .i64 q1) := (blk_cell BK3.out 1).trans rfl
  have hz_BK3_2 : w9_.cell? ⟨g3_, 2, none⟩ = some (.slice (some ⟨gw_, 0, none⟩) W.length c_WS) := (blk_cell BK3.out 2).trans rfl
  have hz_BK5_0 : w9_.cell? ⟨g5_, 0, none⟩ = some (.int .i64 x) := (blk_cell BK5.out 0).trans rfl
  have hz_BK5_1 : w9_.cell? ⟨g5_, 1, none⟩ = some (.slice (some ⟨gw_, 1, none⟩) ps.length c_P) := (blk_cell BK5.out 1).trans rfl
  have hz_BK5_2 : w9_.cell? ⟨g5_, 2, none⟩ = some (.int .i64 x) := (blk_cell BK5.out 2).trans rfl
  have hz_BK5_3 : w9_.cell? ⟨g5_, 3, none⟩ = some (.int .i64 4) := (blk_cell BK5.out 3).trans rfl
  have hz_BK5_4 : w9_.cell? ⟨g5_, 4, none⟩ = some (.slice A_L ls.length c_L) := (blk_cell BK5.out 4).trans rfl
  go_wp2_with (first | (go_at_call 39; refine hold_here ?_))
  refine hold_go ?_
  refine (spec_l4Right.calls _ x _ _ ps x 4 _ _ ls _ _ ?s1 ?s2 ?s3 ?s4 H_p.out).mono ?_
  case s1 => exact Kd.F_now (AR.foot (SG.ar1 PS.out))
  case s2 => have := HPL.out; have := HC_P.out; omega
  case s3 => exact Kd.F_now (AR.foot (SG.ar2 PS.out))
  case s4 => exact HC_L.out
  rintro e w10_ ⟨rfl, hb⟩
  replace BK2 := Aside0.mk (blk_below BK2.out hb)
  replace BK3 := Aside0.mk (blk_below BK3.out hb)
  replace PS := Aside0.mk (SG.below PS.out hb)
  replace BK5 := Aside0.mk (blk_below BK5.out hb)
  replace HB := Aside0.mk (below_step HB.out hb)
  clear hz_BK3_0 hz_BK3_1 hz_BK3_2 hz_BK5_0 hz_BK5_1 hz_BK5_2 hz_BK5_3 hz_BK5_4
  replace ZZ := Aside0.mk (And.intro ZZ.out (show w9_.heap.size ≤ w10_.heap.size from hb.size))
  clear hb
  have hz_BK3_0 : w10_.cell? ⟨g3_, 0, none⟩ = some (.int .i64 q0) := (blk_cell BK3.out 0).trans rfl
  have hz_BK3_1 : w10_.cell? ⟨g3_, 1, none⟩ = some (.int .i64 q1) := (blk_cell BK3.out 1).trans rfl
  have hz_BK3_2 : w10_.cell? ⟨g3_, 2, none⟩ = some (.slice (some ⟨gw_, 0, none⟩) W.length c_WS) := (blk_cell BK3.out 2).trans rfl
  have hz_BK5_0 : w10_.cell? ⟨g5_, 0, none⟩ = some (.int .i64 x) := (blk_cell BK5.out 0).trans rfl
  have hz_BK5_1 : w10_.cell? ⟨g5_, 1, none⟩ = some (.slice (some ⟨gw_, 1, none⟩) ps.length c_P) := (blk_cell BK5.out 1).trans rfl
  have hz_BK5_2 : w10_.cell? ⟨g5_, 2, none⟩ = some (.int .i64 x) := (blk_cell BK5.out 2).trans rfl
  have hz_BK5_3 : w10_.cell? ⟨g5_, 3, none⟩ = some (.int .i64 4) := (blk_cell BK5.out 3).trans rfl
  have hz_BK5_4 : w10_.cell? ⟨g5_, 4, none⟩ = some (.slice A_L ls.length c_L) := (blk_cell BK5.out 4).trans rfl
  go_wp2_with (first | ((with_reducible refine gate_store (t := 29) (p := 2) (v := .tmp 46) rfl ?_); refine hold_here ?_))
  refine hold_go ?_
  refine row_store rfl 29 (.tmp 2) (.tmp 46) rfl g2_ #[.int .i64 0, .int .i64 x, .slice (some ⟨gw_, 1, none⟩) ps.length c_P, .int .i64 x, .int .i64 4, .slice A_L ls.length c_L] rfl ?hy 29 _ BK2.out ?hi ?ho ?h1 rfl HB.out (show w.heap.size ≤ g2_ from (by have h_ := ZZ.out; omega)) ?_
  case hy => rfl
  case hi => kernel_rfl
  case ho => rfl
  case h1 => first | rfl | (simp [Value.oneCell']; done) | (go_simp; done)
  intro w11_ bo hk hb2
  clear BK2
  replace BK3 := Aside0.mk (blk_keptIn BK3.out hk (by have h_ := ZZ.out; omega))
  replace PS := Aside0.mk (SG.kept PS.out hk (by have h_ := ZZ.out; omega))
  replace BK5 := Aside0.mk (blk_keptIn BK5.out hk (by have h_ := ZZ.out; omega))
  replace HB := Aside0.mk hb2
  clear hz_BK3_0 hz_BK3_1 hz_BK3_2 hz_BK5_0 hz_BK5_1 hz_BK5_2 hz_BK5_3 hz_BK5_4
  replace ZZ := Aside0.mk (And.intro ZZ.out (show w10_.heap.size ≤ w11_.heap.size from hk.1))
  have BK2 := Aside0.mk bo
  clear bo hk hb2
  have hz_BK3_0 : w11_.cell? ⟨g3_, 0, none⟩ = some (.int .i64 q0) := (blk_cell BK3.out 0).trans rfl
  have hz_BK3_1 : w11_.cell? ⟨g3_, 1, none⟩ = some (.int .i64 q1) := (blk_cell BK3.out 1).trans rfl
  have hz_BK3_2 : w11_.cell? ⟨g3_, 2, none⟩ = some (.slice (some ⟨gw_, 0, none⟩) W.length c_WS) := (blk_cell BK3.out 2).trans rfl
  have hz_BK5_0 : w11_.cell? ⟨g5_, 0, none⟩ = some (.int .i64 x) := (blk_cell BK5.out 0).trans rfl
  have hz_BK5_1 : w11_.cell? ⟨g5_, 1, none⟩ = some (.slice (some ⟨gw_, 1, none⟩) ps.length c_P) := (blk_cell BK5.out 1).trans rfl
  have hz_BK5_2 : w11_.cell? ⟨g5_, 2, none⟩ = some (.int .i64 x) := (blk_cell BK5.out 2).trans rfl
  have hz_BK5_3 : w11_.cell? ⟨g5_, 3, none⟩ = some (.int .i64 4) := (blk_cell BK5.out 3).trans rfl
  have hz_BK5_4 : w11_.cell? ⟨g5_, 4, none⟩ = some (.slice A_L ls.length c_L) := (blk_cell BK5.out 4).trans rfl
  go_wp2
  refine bodyPost_ret (results_cell_row rfl _ _ g2_ 29 #[.int .i64 0, .int .i64 x, .slice (some ⟨gw_, 1, none⟩) ps.length c_P, .int .i64 x, .int .i64 4, .slice A_L ls.length c_L] (0, 0) _ rfl BK2.out Try.underlying29 rfl (by kernel_rfl)) rfl ?_
  exact ⟨_, c_P, A_L, c_L, rfl, HC_P.out, HC_L.out, SG.grow PS.out (by have h_ := ZZ.out; omega) (by have h_ := ZZ.out; omega), HB.out⟩
set_option maxHeartbeats 80000000 in
set_option maxRecDepth 100000 in
theorem spec_UnpackSign_E (ku : Nat) (A0 : Option Addr) (c0 : Nat) (l0 : List Int) (q0 q1 : Int) (W : List (List Int)) (x : Int) (ps ls : List (List Int)) (kq : Nat) (w : World) (hr0 : Kd.C (Kd.int .u8) w A0 l0.length l0) (hc0 : l0.length ≤ c0) (h_u : spec_UnpackWords.f ku l0 = some (q0, q1, W)) (h_q : q0 = 0) (h_n : 20 ≤ W.length) (h_x : W[0]! = [x]) (h_bx : 0 ≤ x ∧ x ≤ 255) (h_ps : (W.take 20).drop 1 = ps) (h_ls : W.drop 20 = ls) (h_p : spec_l4Right.f kq x ps x 4 ls = some false) :
    Calls Try.prog 24 #[.slice A0 l0.length c0] w (fun e w' => ∃ A c B d, e = .returned (.agg #[.int .i64 5, .int .i64 0, .slice A ([] : List (List Int)).length c, .int .i64 0, .int .i64 0, .slice B ([] : List (List Int)).length d]) ∧ ([] : List (List Int)).length ≤ c ∧ ([] : List (List Int)).length ≤ d ∧ SG w.heap.size w' w.heap.size w'.heap.size A ([] : List (List Int)) B ([] : List (List Int)) ∧ Below w.heap.size w w') := by
  have hu1_ := Try.underlying29
  have hu2_ := Try.underlying25
  have hu3_ := Try.underlying72
  have hu4_ := Try.underlying27
  have HR0 := Aside0.mk hr0
  have HC0 := Aside0.mk hc0
  have H_u := Aside0.mk h_u
  have H_q := Aside0.mk h_q
  have H_n := Aside0.mk h_n
  have H_x := Aside0.mk h_x
  have H_bx := Aside0.mk h_bx
  have H_ps := Aside0.mk h_ps
  have H_ls := Aside0.mk h_ls
  have H_p := Aside0.mk h_p
  have HB := Aside0.mk (Below.refl w.heap.size w)
  have ZZ := Aside0.mk (Nat.le_refl w.heap.size)
  have cq0_ : (q0 == 0) = true := beq_iff_eq.2 h_q
  have cq1_ : (q0 != 0) = false := bne_eq_false_iff_eq.2 h_q
  have cn0_ : decide ((W.length : Int) < 20) = false := decide_eq_false (by omega)
  have cn1_ : decide (W.length < 20) = false := decide_eq_false (by omega)
  have cn2_ : (0 < W.length) = True := eq_true (by omega)
  have cn4_ : ((0 : Int) < (W.length : Int)) = True := eq_true (by omega)
  have cn6_ : ((20 : Int) ≤ (W.length : Int)) = True := eq_true (by omega)
  have cn7_ : (20 ≤ W.length) = True := eq_true (by omega)
  clear hr0 hc0 h_u h_q h_n h_x h_bx h_ps h_ls h_p
  go_enter Try.func24, Try.ntmps24
  go_wp2_with (first | ((with_reducible refine gate_dst (N := 2) rfl ?_); refine hold_here ?_))
  refine hold_go ?_
  refine box_event (N := 2) (cs := #[.int .i64 0, .int .i64 0, .slice none 0 0, .int .i64 0, .int .i64 0, .slice none 0 0]) (t := 29) ?hgb rfl ?hrb ?_
  case hgb => rfl
  case hrb => first | (go_simp; done) | (go_simp; rfl)
  intro g2_ hg w1_ hbox hb
  replace HB := Aside0.mk (below_step HB.out hb)
  replace ZZ := Aside0.mk (And.intro ZZ.out (show w.heap.size ≤ w1_.heap.size from hb.size))
  have BK2 := Aside0.mk hbox
  replace ZZ := Aside0.mk (And.intro ZZ.out (And.intro (show g2_ = w.heap.size from hg) (show g2_ < w1_.heap.size from blk_lt hbox)))
  clear hb hbox hg
  go_wp2_with (first | (go_at_call 52; refine hold_here ?_))
  refine hold_go ?_
  refine (spec_UnpackWords.calls _ A0 c0 l0 q0 q1 W _ ?s1 ?s2 H_u.out).mono ?_
  case s1 => exact Kd.C_below HR0.out HB.out
  case s2 => exact HC0.out
  rintro e w2_ ⟨v, rfl, ho, hb⟩
  replace BK2 := Aside0.mk (blk_below BK2.out hb)
  replace HB := Aside0.mk (below_step HB.out hb)
  replace ZZ := Aside0.mk (And.intro ZZ.out (show w1_.heap.size ≤ w2_.heap.size from hb.size))
  have hfo_ := Kd.S_form ho (by have := H_n.out; omega)
  obtain ⟨A_WS, c_WS, ev_, hc_WS, hA_WS⟩ := AR_of_S (base := w.heap.size) ho (show w.heap.size ≤ w1_.heap.size from (by have h_ := ZZ.out; omega))
  subst ev_
  have HC_WS := Aside0.mk hc_WS
  have WS := Aside0.mk (show AR w.heap.size w2_ w1_.heap.size w2_.heap.size A_WS W from hA_WS)
  clear hc_WS hA_WS ho
  obtain ⟨gw_, cw_, evw_, _⟩ := hfo_
  injection evw_ with eA_ _ eC_
  subst eA_ eC_
  clear hb
  go_wp2_with (first | ((with_reducible refine gate_dst (N := 3) rfl ?_); refine hold_here ?_))
  refine hold_go ?_
  refine box_event (N := 3) (cs := #[.int .i64 0, .int .i64 0, .slice none 0 0]) (t := 72) ?hgb rfl ?hrb ?_
  case hgb => rfl
  case hrb => first | (go_simp; done) | (go_simp; rfl)
  intro g3_ hg w3_ hbox hb
  replace BK2 := Aside0.mk (blk_below BK2.out hb)
  replace WS := Aside0.mk (AR.below WS.out hb)
  replace HB := Aside0.mk (below_step HB.out hb)
  replace ZZ := Aside0.mk (And.intro ZZ.out (show w2_.heap.size ≤ w3_.heap.size from hb.size))
  have BK3 := Aside0.mk hbox
  replace ZZ := Aside0.mk (And.intro ZZ.out (And.intro (show g3_ = w2_.heap.size from hg) (show g3_ < w3_.heap.size from blk_lt hbox)))
  clear hb hbox hg
  have hz_BK3_0 : w3_.cell? ⟨g3_, 0, none⟩ = some (.int .i64 0) := (blk_cell BK3.out 0).trans rfl
  have hz_BK3_1 : w3_.cell? ⟨g3_, 1, none⟩ = some (.int .i64 0) := (blk_cell BK3.out 1).trans rfl
  have hz_BK3_2 : w3_.cell? ⟨g3_, 2, none⟩ = some (.slice none 0 0) := (blk_cell BK3.out 2).trans rfl
  go_wp2_with (first | ((with_reducible refine gate_store (t := 72) (p := 3) (v := .tmp 7) rfl ?_); refine hold_here ?_))
  refine hold_go ?_
  refine row_store rfl 72 (.tmp 3) (.tmp 7) rfl g3_ #[.int .i64 q0, .int .i64 q1, .slice (some ⟨gw_, 0, none⟩) W.length c_WS] rfl ?hy 72 _ BK3.out ?hi ?ho ?h1 rfl HB.out (show w.heap.size ≤ g3_ from (by have h_ := ZZ.out; omega)) ?_
  case hy => rfl
  case hi => kernel_rfl
  case ho => rfl
  case h1 => first | rfl | (simp [Value.oneCell']; done) | (go_simp; done)
  intro w4_ bo hk hb2
  clear BK3
  replace BK2 := Aside0.mk (blk_keptIn BK2.out hk (by have h_ := ZZ.out; omega))
  replace WS := Aside0.mk (AR.kept WS.out hk (by have h_ := ZZ.out; omega))
  replace HB := Aside0.mk hb2
  clear hz_BK3_0 hz_BK3_1 hz_BK3_2
  replace ZZ := Aside0.mk (And.intro ZZ.out (show w3_.heap.size ≤ w4_.heap.size from hk.1))
  have BK3 := Aside0.mk bo
  clear bo hk hb2
  have hz_BK3_0 : w4_.cell? ⟨g3_, 0, none⟩ = some (.int .i64 q0) := (blk_cell BK3.out 0).trans rfl
  have hz_BK3_1 : w4_.cell? ⟨g3_, 1, none⟩ = some (.int .i64 q1) := (blk_cell BK3.out 1).trans rfl
  have hz_BK3_2 : w4_.cell? ⟨g3_, 2, none⟩ = some (.slice (some ⟨gw_, 0, none⟩) W.length c_WS) := (blk_cell BK3.out 2).trans rfl
  obtain ⟨ad_, B0_, d0_, eA_, hx0_, hl0_, hi0_⟩ := word_at (Kd.F_now (AR.foot WS.out)) 0 (by have := H_n.out; omega)
  obtain rfl := Option.some.inj eA_
  rw [Addr.add_zero'] at hx0_
  rw [H_x.out] at hx0_ hi0_
  simp only [List.length_cons, List.length_nil, Nat.zero_add] at hx0_ hi0_
  obtain ⟨b0_, e0_, hv0_⟩ := byte_at hi0_
  subst e0_
  clear hi0_ hl0_
  have HWX := Aside0.mk (w64 (n := x) (by have := H_bx.out; omega) (by have := H_bx.out; omega))
  have hfe_0 := fun (a0 a1 : Value) (w : World) => (show (Instr.field 42 (.agg #[a0, a1]) 0).run Try.prog w = .ok a0 w from by kernel_rfl)
  try go_wp2_with fail
  replace BK2 := Aside0.mk (blk_drew BK2.out)
  replace WS := Aside0.mk (AR.drew WS.out)
  replace BK3 := Aside0.mk (blk_drew BK3.out)
  replace HB := Aside0.mk (below_drew1 HB.out)
  replace ZZ := Aside0.mk (And.intro ZZ.out (show w4_.heap.size ≤ w4_.drew.heap.size from Nat.le_refl _))
  clear hz_BK3_0 hz_BK3_1 hz_BK3_2
  refine start_ (n := 11) (S := fun w' => w'.cell? (⟨gw_, 0, none⟩) = some (.slice (some b0_) 1 d0_) ∧ w'.cell? (b0_) = some (.int .u8 x)) (ds := [10]) #[false, false, false, false, false, false, false, false, false, false, false] (by kernel_rfl) rfl rfl ⟨hx0_, hv0_⟩ (fun hHeld => ?_)
  generalize w4_.drew = w5_ at BK2 WS BK3 HB ZZ hHeld ⊢
  clear hx0_ hv0_
  have hS_ := SG.cuts WS.out 1 20 c_WS (by decide) H_n.out HC_WS.out
  rw [H_ps.out, H_ls.out, if_neg (show ¬ c_WS = 1 by have := HC_WS.out; have := H_n.out; omega)] at hS_
  obtain ⟨A_L, eAL_⟩ : ∃ A : Option Addr, (if c_WS = 20 then some ⟨gw_, 0, none⟩ else some ⟨gw_, 20, none⟩) = A := ⟨_, rfl⟩
  rw [show (if c_WS = 20 then (some (⟨gw_, 0, none⟩ : Addr)) else (some (⟨gw_, 0, none⟩ : Addr)).map (·.add 20)) = A_L from eAL_] at hS_
  obtain ⟨c_L, eCL_⟩ : ∃ c, c_WS - 20 = c := ⟨_, rfl⟩
  obtain ⟨c_P, eCP_⟩ : ∃ c, c_WS - 1 = c := ⟨_, rfl⟩
  have hdl_ := congrArg List.length H_ls.out
  have hdp_ := congrArg List.length H_ps.out
  rw [List.length_drop] at hdl_
  rw [List.length_drop, List.length_take] at hdp_
  have HC_L := Aside0.mk (show ls.length ≤ c_L by have := HC_WS.out; omega)
  have HPL := Aside0.mk (show 19 = ps.length by have := H_n.out; omega)
  have PS := Aside0.mk (show SG _ _ _ _ (some ⟨gw_, 1, none⟩) ps A_L ls from hS_)
  have EAL := Aside0.mk eAL_
  have ECL := Aside0.mk eCL_
  have ECP := Aside0.mk eCP_
  have HC_P := Aside0.mk (show ps.length ≤ c_P by have := HC_WS.out; omega)
  have EDL := Aside0.mk hdl_
  clear hS_ eAL_ eCL_ eCP_ hdl_ hdp_
  refine pure_ (i := 0) (N := some 26) (v := ?_) (a' := ?_) #[true, false, false, false, false, false, false, false, false, false, false] rfl rfl (by kernel_rfl) (fun _ _ _ h => h) (Or.inl ⟨by rfl, ?_⟩) ?_ ?_
  rotate_left
  · intro w'
    go_simp
    with_reducible rfl
  rotate_left
  · simp only [Act.put, List.setIfInBounds_toArray, List.set_cons_zero, List.set_cons_succ, i64_w, i32_w]
    rfl
  refine pure_ (i := 1) (N := some 27) (v := ?_) (a' := ?_) #[true, true, false, false, false, false, false, false, false, false, false] rfl rfl (by kernel_rfl) (fun _ _ _ h => h) (Or.inl ⟨by rfl, ?_⟩) ?_ ?_
  rotate_left
  · intro w'
    go_simp
    with_reducible rfl
  rotate_left
  · simp only [Act.put, List.setIfInBounds_toArray, List.set_cons_zero, List.set_cons_succ, i64_w, i32_w]
    rfl
  refine take_ (i := 2) (N := some 28) (v := ?_) (a' := ?_) #[true, true, true, false, false, false, false, false, false, false, false] rfl rfl (by kernel_rfl) (fun _ _ _ h => h) (Or.inl ⟨by rfl, ?_⟩) hHeld ?_ ?_
  rotate_left
  · rintro w' ⟨s0, s1⟩
    go_simp
    with_reducible rfl
  rotate_left
  · simp only [Act.put, List.setIfInBounds_toArray, List.set_cons_zero, List.set_cons_succ, i64_w, i32_w]
    rfl
  refine pure_ (i := 3) (N := some 29) (v := ?_) (a' := ?_) #[true, true, true, true, false, false, false, false, false, false, false] rfl rfl (by kernel_rfl) (fun _ _ _ h => h) (Or.inl ⟨by rfl, ?_⟩) ?_ ?_
  rotate_left
  · intro w'
    go_simp
    with_reducible rfl
  rotate_left
  · simp only [Act.put, List.setIfInBounds_toArray, List.set_cons_zero, List.set_cons_succ, i64_w, i32_w]
    rfl
  refine take_ (i := 4) (N := some 30) (v := ?_) (a' := ?_) #[true, true, true, true, true, false, false, false, false, false, false] rfl rfl (by kernel_rfl) (fun _ _ _ h => h) (Or.inl ⟨by rfl, ?_⟩) hHeld ?_ ?_
  rotate_left
  · rintro w' ⟨s0, s1⟩
    go_simp
    with_reducible rfl
  rotate_left
  · simp only [Act.put, List.setIfInBounds_toArray, List.set_cons_zero, List.set_cons_succ, i64_w, i32_w]
    rfl
  refine pure_ (i := 5) (N := some 31) (v := .int .i64 x) (a' := ?_) #[true, true, true, true, true, true, false, false, false, false, false] rfl rfl (by kernel_rfl) (fun _ _ _ h => h) (Or.inl ⟨by rfl, ?_⟩) ?_ ?_
  · intro w'
    go_simp
    first | done | (simp only [i64_w, HWX.out]; done) | rw [i64_w, HWX.out]
  rotate_left
  · simp only [Act.put, List.setIfInBounds_toArray, List.set_cons_zero, List.set_cons_succ, i64_w, i32_w]
    rfl
  refine pure_ (i := 6) (N := some 32) (v := ?_) (a' := ?_) #[true, true, true, true, true, true, true, false, false, false, false] rfl rfl (by kernel_rfl) (fun _ _ _ h => h) (Or.inl ⟨by rfl, ?_⟩) ?_ ?_
  rotate_left
  · intro w'
    go_simp
    with_reducible rfl
  rotate_left
  · simp only [Act.put, List.setIfInBounds_toArray, List.set_cons_zero, List.set_cons_succ, i64_w, i32_w]
    rfl
  refine pure_ (i := 7) (N := some 33) (v := .slice (some ⟨gw_, 1, none⟩) ps.length c_P) (a' := ?_) #[true, true, true, true, true, true, true, true, false, false, false] rfl rfl (by kernel_rfl) (fun _ _ _ h => h) (Or.inl ⟨by rfl, ?_⟩) ?_ ?_
  · intro w'
    go_simp
    rw [if_pos (show (20 : Int) ≤ (c_WS : Int) by have := HC_WS.out; have := H_n.out; omega), ← HPL.out, if_neg (show ¬ c_WS = 1 by have := HC_WS.out; have := H_n.out; omega), ECP.out]
  rotate_left
  · simp only [Act.put, List.setIfInBounds_toArray, List.set_cons_zero, List.set_cons_succ, i64_w, i32_w]
    rfl
  refine pure_ (i := 8) (N := some 34) (v := ?_) (a' := ?_) #[true, true, true, true, true, true, true, true, true, false, false] rfl rfl (by kernel_rfl) (fun _ _ _ h => h) (Or.inl ⟨by rfl, ?_⟩) ?_ ?_
  rotate_left
  · intro w'
    go_simp
    with_reducible rfl
  rotate_left
  · simp only [Act.put, List.setIfInBounds_toArray, List.set_cons_zero, List.set_cons_succ, i64_w, i32_w]
    rfl
  refine one_ (i := 9) (N := some 5) #[true, true, true, true, true, true, true, true, true, true, false] rfl rfl (by kernel_rfl) (by decide) (fun K hK => ?_)
  refine box_stepK (cs := #[.int .i64 0, .slice none 0 0, .int .i64 0, .int .i64 0, .slice none 0 0]) (t := 27) (by rfl) rfl ?hr ?_
  case hr => first | (go_simp; done) | (go_simp; rfl)
  intro g5_ hg w6_ hbox hb
  have hS_ : (fun w' : World => w'.cell? (⟨gw_, 0, none⟩) = some (.slice (some b0_) 1 d0_) ∧ w'.cell? (b0_) = some (.int .u8 x)) w6_ := by
    obtain ⟨s0, s1⟩ := hHeld
    exact ⟨(hb.cell (World.block_lt_of_cell? _ _ s0)).trans s0, (hb.cell (World.block_lt_of_cell? _ _ s1)).trans s1⟩
  replace BK2 := Aside0.mk (blk_below BK2.out hb)
  replace BK3 := Aside0.mk (blk_below BK3.out hb)
  replace PS := Aside0.mk (SG.below PS.out hb)
  replace HB := Aside0.mk (below_step HB.out hb)
  replace ZZ := Aside0.mk (And.intro ZZ.out (show w5_.heap.size ≤ w6_.heap.size from hb.size))
  have BK5 := Aside0.mk hbox
  replace ZZ := Aside0.mk (And.intro ZZ.out (And.intro (show g5_ = w5_.heap.size from hg) (show g5_ < w6_.heap.size from blk_lt hbox)))
  clear hb hbox hg
  refine hK.out _ _ hS_ (fun hHeld2 => ?_)
  clear hK K hHeld hS_
  have hHeld := hHeld2
  clear hHeld2
  refine norm_ (a' := ?_) ?_ ?_
  rotate_left
  · show Act.put _ (some 5) _ = _
    simp only [Act.put, List.setIfInBounds_toArray, List.set_cons_zero, List.set_cons_succ, i64_w, i32_w]
    rfl
  refine last_ (i := 10) (N := none) #[true, true, true, true, true, true, true, true, true, true, true] rfl rfl (by kernel_rfl) (by decide) (fun K hK => ?_)
  refine row_stepK (by rfl) 27 (.tmp 5) (.tmp 34) rfl g5_ #[.int .i64 x, .slice (some ⟨gw_, 1, none⟩) ps.length c_P, .int .i64 0, .int .i64 0, .slice none 0 0] rfl ?hy 27 _ BK5.out ?hi ?ho ?h1 rfl HB.out (show w.heap.size ≤ g5_ from (by have h_ := ZZ.out; omega)) ?_
  case hy => rfl
  case hi => kernel_rfl
  case ho => rfl
  case h1 => first | rfl | (simp [Value.oneCell']; done) | (go_simp; done)
  clear hHeld
  intro w7_ bo hk hb2
  clear BK5
  replace BK2 := Aside0.mk (blk_keptIn BK2.out hk (by have h_ := ZZ.out; omega))
  replace BK3 := Aside0.mk (blk_keptIn BK3.out hk (by have h_ := ZZ.out; omega))
  replace PS := Aside0.mk (SG.kept PS.out hk (by have h_ := ZZ.out; omega))
  replace HB := Aside0.mk hb2
  replace ZZ := Aside0.mk (And.intro ZZ.out (show w6_.heap.size ≤ w7_.heap.size from hk.1))
  have BK5 := Aside0.mk bo
  clear bo hk hb2
  refine hK.out _ _ ?_
  clear hK K
  refine done_ (by kernel_rfl) ?_
  have hz_BK3_0 : w7_.cell? ⟨g3_, 0, none⟩ = some (.int .i64 q0) := (blk_cell BK3.out 0).trans rfl
  have hz_BK3_1 : w7_.cell? ⟨g3_, 1, none⟩ = some (.int .i64 q1) := (blk_cell BK3.out 1).trans rfl
  have hz_BK3_2 : w7_.cell? ⟨g3_, 2, none⟩ = some (.slice (some ⟨gw_, 0, none⟩) W.length c_WS) := (blk_cell BK3.out 2).trans rfl
  have hz_BK5_0 : w7_.cell? ⟨g5_, 0, none⟩ = some (.int .i64 x) := (blk_cell BK5.out 0).trans rfl
  have hz_BK5_1 : w7_.cell? ⟨g5_, 1, none⟩ = some (.slice (some ⟨gw_, 1, none⟩) ps.length c_P) := (blk_cell BK5.out 1).trans rfl
  have hz_BK5_2 : w7_.cell? ⟨g5_, 2, none⟩ = some (.int .i64 0) := (blk_cell BK5.out 2).trans rfl
  have hz_BK5_3 : w7_.cell? ⟨g5_, 3, none⟩ = some (.int .i64 0) := (blk_cell BK5.out 3).trans rfl
  have hz_BK5_4 : w7_.cell? ⟨g5_, 4, none⟩ = some (.slice none 0 0) := (blk_cell BK5.out 4).trans rfl
  try go_wp2_with fail
  replace BK2 := Aside0.mk (blk_drew BK2.out)
  replace BK3 := Aside0.mk (blk_drew BK3.out)
  replace PS := Aside0.mk (SG.drew PS.out)
  replace BK5 := Aside0.mk (blk_drew BK5.out)
  replace HB := Aside0.mk (below_drew1 HB.out)
  replace ZZ := Aside0.mk (And.intro ZZ.out (show w7_.heap.size ≤ w7_.drew.heap.size from Nat.le_refl _))
  clear hz_BK3_0 hz_BK3_1 hz_BK3_2 hz_BK5_0 hz_BK5_1 hz_BK5_2 hz_BK5_3 hz_BK5_4
  refine start_ (n := 7) (S := fun w' => w'.cell? (⟨g5_, 0, none⟩) = some (.int .i64 x)) (ds := [6]) #[false, false, false, false, false, false, false] (by kernel_rfl) rfl rfl (show w7_.drew.cell? (⟨g5_, 0, none⟩) = some (.int .i64 x) from (blk_cell BK5.out 0).trans rfl) (fun hHeld => ?_)
  generalize w7_.drew = w8_ at BK2 BK3 PS BK5 HB ZZ hHeld ⊢
  refine pure_ (i := 0) (N := some 35) (v := ?_) (a' := ?_) #[true, false, false, false, false, false, false] rfl rfl (by kernel_rfl) (fun _ _ _ h => h) (Or.inl ⟨by rfl, ?_⟩) ?_ ?_
  rotate_left
  · intro w'
    go_simp
    with_reducible rfl
  rotate_left
  · simp only [Act.put, List.setIfInBounds_toArray, List.set_cons_zero, List.set_cons_succ, i64_w, i32_w]
    rfl
  refine take_ (i := 1) (N := some 36) (v := ?_) (a' := ?_) #[true, true, false, false, false, false, false] rfl rfl (by kernel_rfl) (fun _ _ _ h => h) (Or.inl ⟨by rfl, ?_⟩) hHeld ?_ ?_
  rotate_left
  · rintro w' s0
    go_simp
    with_reducible rfl
  rotate_left
  · simp only [Act.put, List.setIfInBounds_toArray, List.set_cons_zero, List.set_cons_succ, i64_w, i32_w]
    rfl
  refine pure_ (i := 2) (N := some 37) (v := ?_) (a' := ?_) #[true, true, true, false, false, false, false] rfl rfl (by kernel_rfl) (fun _ _ _ h => h) (Or.inl ⟨by rfl, ?_⟩) ?_ ?_
  rotate_left
  · intro w'
    go_simp
    with_reducible rfl
  rotate_left
  · simp only [Act.put, List.setIfInBounds_toArray, List.set_cons_zero, List.set_cons_succ, i64_w, i32_w]
    rfl
  refine pure_ (i := 3) (N := some 38) (v := .slice A_L ls.length c_L) (a' := ?_) #[true, true, true, true, false, false, false] rfl rfl (by kernel_rfl) (fun _ _ _ h => h) (Or.inl ⟨by rfl, ?_⟩) ?_ ?_
  · intro w'
    go_simp
    exact ⟨EAL.out, EDL.out, ECL.out⟩
  rotate_left
  · simp only [Act.put, List.setIfInBounds_toArray, List.set_cons_zero, List.set_cons_succ, i64_w, i32_w]
    rfl
  refine pure_ (i := 4) (N := some 39) (v := ?_) (a' := ?_) #[true, true, true, true, true, false, false] rfl rfl (by kernel_rfl) (fun _ _ _ h => h) (Or.inl ⟨by rfl, ?_⟩) ?_ ?_
  rotate_left
  · intro w'
    go_simp
    with_reducible rfl
  rotate_left
  · simp only [Act.put, List.setIfInBounds_toArray, List.set_cons_zero, List.set_cons_succ, i64_w, i32_w]
    rfl
  refine pure_ (i := 5) (N := some 40) (v := ?_) (a' := ?_) #[true, true, true, true, true, true, false] rfl rfl (by kernel_rfl) (fun _ _ _ h => h) (Or.inl ⟨by rfl, ?_⟩) ?_ ?_
  rotate_left
  · intro w'
    go_simp
    with_reducible rfl
  rotate_left
  · simp only [Act.put, List.setIfInBounds_toArray, List.set_cons_zero, List.set_cons_succ, i64_w, i32_w]
    rfl
  clear hHeld
  refine last_ (i := 6) (N := none) #[true, true, true, true, true, true, true] rfl rfl (by kernel_rfl) (by decide) (fun K hK => ?_)
  have hz0_ : w8_.cell? ⟨g5_, 0, none⟩ = some (.int .i64 x) := (blk_cell BK5.out 0).trans rfl
  have hf0_ := blk_frozen BK5.out 0
  have hz1_ : w8_.cell? ⟨g5_, 1, none⟩ = some (.slice (some ⟨gw_, 1, none⟩) ps.length c_P) := (blk_cell BK5.out 1).trans rfl
  have hf1_ := blk_frozen BK5.out 1
  have hz2_ : w8_.cell? ⟨g5_, 2, none⟩ = some (.int .i64 0) := (blk_cell BK5.out 2).trans rfl
  have hf2_ := blk_frozen BK5.out 2
  have hz3_ : w8_.cell? ⟨g5_, 3, none⟩ = some (.int .i64 0) := (blk_cell BK5.out 3).trans rfl
  have hf3_ := blk_frozen BK5.out 3
  have hz4_ : w8_.cell? ⟨g5_, 4, none⟩ = some (.slice none 0 0) := (blk_cell BK5.out 4).trans rfl
  have hf4_ := blk_frozen BK5.out 4
  refine skip_ (w1 := ?_) (by rfl) rfl ?_ ?_
  rotate_left
  · go_simp
    rfl
  clear hz0_ hf0_ hz1_ hf1_ hz2_ hf2_ hz3_ hf3_ hz4_ hf4_
  have hge_ : w.heap.size ≤ g5_ := (by have h_ := ZZ.out; omega)
  have hin_ : In g5_ (g5_ + 1) g5_ := ⟨Nat.le_refl _, Nat.lt_succ_self _⟩
  have bo : (((w8_.setCell ⟨g5_, 2, none⟩ (.int .i64 x)).setCell ⟨g5_, 3, none⟩ (.int .i64 4)).setCell ⟨g5_, 4, none⟩ (.slice A_L ls.length c_L)).heap[g5_]? = some (.cells #[.int .i64 x, .slice (some ⟨gw_, 1, none⟩) ps.length c_P, .int .i64 x, .int .i64 4, .slice A_L ls.length c_L] 27 (0, 0)) := (blk_put (cs := #[.int .i64 x, .slice (some ⟨gw_, 1, none⟩) ps.length c_P, .int .i64 x, .int .i64 4, .slice none 0 0]) (blk_put (cs := #[.int .i64 x, .slice (some ⟨gw_, 1, none⟩) ps.length c_P, .int .i64 x, .int .i64 0, .slice none 0 0]) (blk_put (cs := #[.int .i64 x, .slice (some ⟨gw_, 1, none⟩) ps.length c_P, .int .i64 0, .int .i64 0, .slice none 0 0]) BK5.out 2 (.int .i64 x) rfl) 3 (.int .i64 4) rfl) 4 (.slice A_L ls.length c_L) rfl)
  have hk : Kept w8_ (((w8_.setCell ⟨g5_, 2, none⟩ (.int .i64 x)).setCell ⟨g5_, 3, none⟩ (.int .i64 4)).setCell ⟨g5_, 4, none⟩ (.slice A_L ls.length c_L)) (In g5_ (g5_ + 1)) := (Kept.setCell (Kept.setCell (Kept.setCell (Kept.refl _ _) (.inl hin_) _) (.inl hin_) _) (.inl hin_) _)
  have hb2 : Below w.heap.size w (((w8_.setCell ⟨g5_, 2, none⟩ (.int .i64 x)).setCell ⟨g5_, 3, none⟩ (.int .i64 4)).setCell ⟨g5_, 4, none⟩ (.slice A_L ls.length c_L)) := (below_set (below_set (below_set HB.out hge_) hge_) hge_)
  refine hK.out _ _ ?_
  clear hK K hge_ hin_
  generalize (((w8_.setCell ⟨g5_, 2, none⟩ (.int .i64 x)).setCell ⟨g5_, 3, none⟩ (.int .i64 4)).setCell ⟨g5_, 4, none⟩ (.slice A_L ls.length c_L)) = w9_ at bo hk hb2 ⊢
  clear BK5
  replace BK2 := Aside0.mk (blk_keptIn BK2.out hk (by have h_ := ZZ.out; omega))
  replace BK3 := Aside0.mk (blk_keptIn BK3.out hk (by have h_ := ZZ.out; omega))
  replace PS := Aside0.mk (SG.kept PS.out hk (by have h_ := ZZ.out; omega))
  replace HB := Aside0.mk hb2
  replace ZZ := Aside0.mk (And.intro ZZ.out (show w8_.heap.size ≤ w9_.heap.size from hk.1))
  have BK5 := Aside0.mk bo
  clear bo hk hb2
  refine done_ (by kernel_rfl) ?_
  have hz_BK3_0 : w9_.cell? ⟨g3_, 0, none⟩ = some (.int .i64 q0) := (blk_cell BK3.out 0).trans rfl
  have hz_BK3_1 : w9_.cell? ⟨g3_, 1, none⟩ = some (.int .i64 q1) := (blk_cell BK3.out 1).trans rfl
  have hz_BK3_2 : w9_.cell? ⟨g3_, 2, none⟩ = some (.slice (some ⟨gw_, 0, none⟩) W.length c_WS) := (blk_cell BK3.out 2).trans rfl
  have hz_BK5_0 : w9_.cell? ⟨g5_, 0, none⟩ = some (.int .i64 x) := (blk_cell BK5.out 0).trans rfl
  have hz_BK5_1 : w9_.cell? ⟨g5_, 1, none⟩ = some (.slice (some ⟨gw_, 1, none⟩) ps.length c_P) := (blk_cell BK5.out 1).trans rfl
  have hz_BK5_2 : w9_.cell? ⟨g5_, 2, none⟩ = some (.int .i64 x) := (blk_cell BK5.out 2).trans rfl
  have hz_BK5_3 : w9_.cell? ⟨g5_, 3, none⟩ = some (.int .i64 4) := (blk_cell BK5.out 3).trans rfl
  have hz_BK5_4 : w9_.cell? ⟨g5_, 4, none⟩ = some (.slice A_L ls.length c_L) := (blk_cell BK5.out 4).trans rfl
  go_wp2_with (first | (go_at_call 39; refine hold_here ?_))
  refine hold_go ?_
  refine (spec_l4Right.calls _ x _ _ ps x 4 _ _ ls _ _ ?s1 ?s2 ?s3 ?s4 H_p.out).mono ?_
  case s1 => exact Kd.F_now (AR.foot (SG.ar1 PS.out))
  case s2 => have := HPL.out; have := HC_P.out; omega
  case s3 => exact Kd.F_now (AR.foot (SG.ar2 PS.out))
  case s4 => exact HC_L.out
  rintro e w10_ ⟨rfl, hb⟩
  replace BK2 := Aside0.mk (blk_below BK2.out hb)
  replace BK3 := Aside0.mk (blk_below BK3.out hb)
  replace PS := Aside0.mk (SG.below PS.out hb)
  replace BK5 := Aside0.mk (blk_below BK5.out hb)
  replace HB := Aside0.mk (below_step HB.out hb)
  clear hz_BK3_0 hz_BK3_1 hz_BK3_2 hz_BK5_0 hz_BK5_1 hz_BK5_2 hz_BK5_3 hz_BK5_4
  replace ZZ := Aside0.mk (And.intro ZZ.out (show w9_.heap.size ≤ w10_.heap.size from hb.size))
  clear hb
  have hz_BK3_0 : w10_.cell? ⟨g3_, 0, none⟩ = some (.int .i64 q0) := (blk_cell BK3.out 0).trans rfl
  have hz_BK3_1 : w10_.cell? ⟨g3_, 1, none⟩ = some (.int .i64 q1) := (blk_cell BK3.out 1).trans rfl
  have hz_BK3_2 : w10_.cell? ⟨g3_, 2, none⟩ = some (.slice (some ⟨gw_, 0, none⟩) W.length c_WS) := (blk_cell BK3.out 2).trans rfl
  have hz_BK5_0 : w10_.cell? ⟨g5_, 0, none⟩ = some (.int .i64 x) := (blk_cell BK5.out 0).trans rfl
  have hz_BK5_1 : w10_.cell? ⟨g5_, 1, none⟩ = some (.slice (some ⟨gw_, 1, none⟩) ps.length c_P) := (blk_cell BK5.out 1).trans rfl
  have hz_BK5_2 : w10_.cell? ⟨g5_, 2, none⟩ = some (.int .i64 x) := (blk_cell BK5.out 2).trans rfl
  have hz_BK5_3 : w10_.cell? ⟨g5_, 3, none⟩ = some (.int .i64 4) := (blk_cell BK5.out 3).trans rfl
  have hz_BK5_4 : w10_.cell? ⟨g5_, 4, none⟩ = some (.slice A_L ls.length c_L) := (blk_cell BK5.out 4).trans rfl
  go_wp2_with (first | ((with_reducible refine gate_store (t := 29) (p := 2) (v := .tmp 44) rfl ?_); refine hold_here ?_))
  refine hold_go ?_
  refine row_store rfl 29 (.tmp 2) (.tmp 44) rfl g2_ #[.int .i64 5, .int .i64 0, .slice none 0 0, .int .i64 0, .int .i64 0, .slice none 0 0] rfl ?hy 29 _ BK2.out ?hi ?ho ?h1 rfl HB.out (show w.heap.size ≤ g2_ from (by have h_ := ZZ.out; omega)) ?_
  case hy => rfl
  case hi => kernel_rfl
  case ho => rfl
  case h1 => first | rfl | (simp [Value.oneCell']; done) | (go_simp; done)
  intro w11_ bo hk hb2
  clear BK2
  replace BK3 := Aside0.mk (blk_keptIn BK3.out hk (by have h_ := ZZ.out; omega))
  replace PS := Aside0.mk (SG.kept PS.out hk (by have h_ := ZZ.out; omega))
  replace BK5 := Aside0.mk (blk_keptIn BK5.out hk (by have h_ := ZZ.out; omega))
  replace HB := Aside0.mk hb2
  clear hz_BK3_0 hz_BK3_1 hz_BK3_2 hz_BK5_0 hz_BK5_1 hz_BK5_2 hz_BK5_3 hz_BK5_4
  replace ZZ := Aside0.mk (And.intro ZZ.out (show w10_.heap.size ≤ w11_.heap.size from hk.1))
  have BK2 := Aside0.mk bo
  clear bo hk hb2
  have hz_BK3_0 : w11_.cell? ⟨g3_, 0, none⟩ = some (.int .i64 q0) := (blk_cell BK3.out 0).trans rfl
  have hz_BK3_1 : w11_.cell? ⟨g3_, 1, none⟩ = some (.int .i64 q1) := (blk_cell BK3.out 1).trans rfl
  have hz_BK3_2 : w11_.cell? ⟨g3_, 2, none⟩ = some (.slice (some ⟨gw_, 0, none⟩) W.length c_WS) := (blk_cell BK3.out 2).trans rfl
  have hz_BK5_0 : w11_.cell? ⟨g5_, 0, none⟩ = some (.int .i64 x) := (blk_cell BK5.out 0).trans rfl
  have hz_BK5_1 : w11_.cell? ⟨g5_, 1, none⟩ = some (.slice (some ⟨gw_, 1, none⟩) ps.length c_P) := (blk_cell BK5.out 1).trans rfl
  have hz_BK5_2 : w11_.cell? ⟨g5_, 2, none⟩ = some (.int .i64 x) := (blk_cell BK5.out 2).trans rfl
  have hz_BK5_3 : w11_.cell? ⟨g5_, 3, none⟩ = some (.int .i64 4) := (blk_cell BK5.out 3).trans rfl
  have hz_BK5_4 : w11_.cell? ⟨g5_, 4, none⟩ = some (.slice A_L ls.length c_L) := (blk_cell BK5.out 4).trans rfl
  go_wp2
  refine bodyPost_ret (results_cell_row rfl _ _ g2_ 29 #[.int .i64 5, .int .i64 0, .slice none 0 0, .int .i64 0, .int .i64 0, .slice none 0 0] (0, 0) _ rfl BK2.out Try.underlying29 rfl (by kernel_rfl)) rfl ?_
  exact ⟨none, 0, none, 0, rfl, Nat.le_refl _, Nat.le_refl _, SG.nil _ _ _ _ _ _, HB.out⟩

end Go.Proofs.Ytchmaojmknfbpaa.S

/- Signatures out of bytes: what the program's UnpackSign and the reference's come to, way by way: the same. For all bytes that fit. -/
set_option linter.unusedVariables false
namespace Go.Proofs.Ytchmaojmknfbpaa.S
open Go Go.RowKit Go.Proofs.YtchmaojmknfbpaaW.PrintWords Go.Proofs.YtchmaojmknfbpaaW.PrintLast Go.Proofs.YtchmaojmknfbpaaW.PrintMore Go.Proofs.Ytchmaojmknfbpaa.Base

theorem only_of {l : List Int} (h : l.length = 1) (hb : Byt l) : ∃ x, l = [x] ∧ 0 ≤ x ∧ x ≤ 255 := by
  match l, h with
  | [x], _ => exact ⟨x, rfl, hb x List.mem_cons_self⟩
/-- What a result holds, in new memory. -/
def UsPost (q0 q1 : Int) (ps : List (List Int)) (q3 q4 : Int) (ls : List (List Int)) (W : World) (e : Ending) (w' : World) : Prop :=
  ∃ A c B d, e = .returned (.agg #[.int .i64 q0, .int .i64 q1, .slice A ps.length c, .int .i64 q3, .int .i64 q4, .slice B ls.length d]) ∧ ps.length ≤ c ∧ ls.length ≤ d ∧ SG W.heap.size w' W.heap.size w'.heap.size A ps B ls ∧ Below W.heap.size W w'
theorem us_ex {x : List Int} (hx : Byt x) : ∃ q0 q1 ps q3 q4 ls, (ps.length ≤ 60 ∧ ls.length ≤ 60 ∧ (∀ l ∈ ps, l.length ≤ 200) ∧ (∀ l ∈ ls, l.length ≤ 200)) ∧
    (∀ (B0 : Option Addr) (d0 : Nat) (W : World), Kd.C (Kd.int .u8) W B0 x.length x → x.length ≤ d0 → Calls Try.prog 25 #[.slice B0 x.length d0] W (UsPost q0 q1 ps q3 q4 ls W)) ∧
    (∀ (B0 : Option Addr) (d0 : Nat) (W : World), Kd.C (Kd.int .u8) W B0 x.length x → x.length ≤ d0 → Calls Try.prog 24 #[.slice B0 x.length d0] W (UsPost q0 q1 ps q3 q4 ls W)) := by
  obtain ⟨h1, h2, h3, h4, h5⟩ := unpackV_ok hx
  have hsz : (unpackV x).1 = 0 → x.length ≤ 4000 := by
    unfold unpackV
    by_cases h : x.length > 4000
    · rw [if_pos h]
      exact fun h => absurd (show (2 : Int) = 0 from h) (by decide)
    · exact fun _ => by omega
  have hi := impl_UnpackWords_ev hx
  have hs := spec_UnpackWords_ev hx
  generalize unpackV x = r at *
  obtain ⟨c, at_, ws⟩ := r
  simp only at h1 h2 h3 h4 h5 hsz
  obtain ⟨ki, hi⟩ := hi.rounds
  obtain ⟨ks, hs⟩ := hs.rounds
  have bad : ([] : List (List Int)).length ≤ 60 ∧ ([] : List (List Int)).length ≤ 60 ∧ (∀ l ∈ ([] : List (List Int)), l.length ≤ 200) ∧ (∀ l ∈ ([] : List (List Int)), l.length ≤ 200) := ⟨by simp, by simp, fun l h => (by cases h), fun l h => (by cases h)⟩
  by_cases hc : c = 0
  · subst hc
    by_cases hn : ws.length < 20
    · exact ⟨5, 0, [], 0, 0, [], bad, fun B d W hB hd => impl_UnpackSign_A ki B d x _ _ ws W hB hd hi hn, fun B d W hB hd => spec_UnpackSign_A ks B d x _ _ ws W hB hd hs rfl hn⟩
    have hn : 20 ≤ ws.length := by omega
    by_cases h0 : (ws[0]!).length = 1
    · have hm0 : ws[0]! ∈ ws := by rw [getElem!_pos ws 0 (by omega)]; exact List.getElem_mem _
      obtain ⟨p, hp, hp0, hp1⟩ := only_of h0 (h1 _ hm0).1
      obtain ⟨L, hL, si, ss⟩ := sides_any 4 p
      have hcat : [[p % 256]] ++ (ws.take 20).drop 1 ++ ws.drop 20 = ws := by
        rw [Int.emod_eq_of_lt hp0 (by omega)]
        match ws, hn, hp with
        | a :: t, _, hp =>
          have e1 : a = [p] := hp
          rw [e1]
          show [p] :: (t.take 19 ++ t.drop 19) = _
          rw [List.take_append_drop]
      have hms : ∀ l ∈ (ws.take 20).drop 1, l.length ≤ 200 := fun l hm => (h1 l (List.mem_of_mem_take (List.mem_of_mem_drop hm))).2
      have hml : ∀ l ∈ ws.drop 20, l.length ≤ 200 := fun l hm => (h1 l (List.mem_of_mem_drop hm)).2
      have hls : ((ws.take 20).drop 1).length ≤ 60 := by rw [List.length_drop, List.length_take]; omega
      have hll : (ws.drop 20).length ≤ 60 := by rw [List.length_drop]; omega
      obtain ⟨kq, hkq⟩ := (spec_l4Right_ev p ((ws.take 20).drop 1) p 4 L ss (ws.drop 20) (by omega)).rounds
      have hP := fun (B1 : Option Addr) (d1 : Nat) (B4 : Option Addr) (d4 : Nat) (Wd : World) a1 a2 a3 a4 => (packSign_impl p ((ws.take 20).drop 1) p 4 L si (ws.drop 20) (by omega) (fun w hm => by have := hms w hm; omega) (fun w hm => by have := hml w hm; omega) B1 d1 B4 d4 Wd a1 a2 a3 a4).mono (fun e w' h => (by
        obtain ⟨v, he, _, hb⟩ := h
        exact ⟨v, he, hb⟩ : ∃ v1_ : Value, e = .returned (.agg #[.int .i64 (packSignV p ((ws.take 20).drop 1) p 4 L (ws.drop 20)).1, v1_]) ∧ Below Wd.heap.size Wd w'))
      by_cases g : PlacedS p ((ws.take 20).drop 1) p 4 ∧ Right 4 p L (ws.drop 20)
      · have hz : (packSignV p ((ws.take 20).drop 1) p 4 L (ws.drop 20)).1 = 0 := by
          unfold packSignV
          rw [if_pos g, hcat]
          unfold packWordsV
          rw [if_neg (by omega), if_pos ⟨fun w hm => (h1 w hm).2, by rw [h3 rfl]; exact hsz rfl⟩]
        rw [decide_eq_true g] at hkq
        exact ⟨0, p, (ws.take 20).drop 1, p, 4, ws.drop 20, ⟨hls, hll, hms, hml⟩, fun B d W hB hd => impl_UnpackSign_D ki B d x _ _ ws p _ _ _ W hB hd hi hn hp ⟨hp0, hp1⟩ rfl rfl hz hP, fun B d W hB hd => spec_UnpackSign_D ks B d x _ _ ws p _ _ kq W hB hd hs rfl hn hp ⟨hp0, hp1⟩ rfl rfl hkq⟩
      · have hz : (packSignV p ((ws.take 20).drop 1) p 4 L (ws.drop 20)).1 ≠ 0 := by
          unfold packSignV
          rw [if_neg g]
          decide
        rw [decide_eq_false g] at hkq
        exact ⟨5, 0, [], 0, 0, [], bad, fun B d W hB hd => impl_UnpackSign_E ki B d x _ _ ws p _ _ _ W hB hd hi hn hp ⟨hp0, hp1⟩ rfl rfl hz hP, fun B d W hB hd => spec_UnpackSign_E ks B d x _ _ ws p _ _ kq W hB hd hs rfl hn hp ⟨hp0, hp1⟩ rfl rfl hkq⟩
    · exact ⟨5, 0, [], 0, 0, [], bad, fun B d W hB hd => impl_UnpackSign_B ki B d x _ _ ws W hB hd hi hn h0, fun B d W hB hd => spec_UnpackSign_B ks B d x _ _ ws W hB hd hs rfl hn h0⟩
  · have he := (h4 hc).1
    subst he
    exact ⟨5, 0, [], 0, 0, [], bad, fun B d W hB hd => impl_UnpackSign_A ki B d x _ _ [] W hB hd hi (by simp), fun B d W hB hd => spec_UnpackSign_N ks B d x _ _ [] W hB hd hs hc⟩
end Go.Proofs.Ytchmaojmknfbpaa.S

/- What the laws' heldByteSS comes to on rows that are marked; what eqWordsResult comes to. For all that fit. -/
set_option linter.unusedVariables false
namespace Go.Proofs.Ytchmaojmknfbpaa.S
open Go.RowKit Go.Proofs.YtchmaojmknfbpaaW.PrintWords Go.Proofs.YtchmaojmknfbpaaW.PrintLast Go.Proofs.YtchmaojmknfbpaaW.PrintMore Go.Proofs.Ytchmaojmknfbpaa.Base

theorem heldSS_l0 (ls : List (List Int)) (a : Int) (h0 : 0 ≤ a) (hl : ls.length ≤ 1000000000) (h1 : a + (ls.flatten.length : Int) ≤ 4611686018427387904) : ∀ (d i : Nat), i + d = ls.length → Ev (fun k => laws_heldByteSS.l0 k (markAll a ls) (a + (offs ls i : Int)) (i : Int)) (a + (ls.flatten.length : Int)) := by
  intro d
  induction d with
  | zero =>
    intro i h
    obtain rfl : i = ls.length := by omega
    have e1 : offs ls ls.length = ls.flatten.length := by unfold offs; rw [List.take_of_length_le (Nat.le_refl _)]
    rw [e1]
    exact ev_step (fun k => laws_heldByteSS.l0.eq_2 _ _ _ _) (ev_neg (by rw [markAll_length]; omega) (ev_now rfl))
  | succ d ih =>
    intro i h
    have hlt : i < ls.length := by omega
    have ho := offs_step ls i hlt
    have hol := offs_le ls (i + 1)
    have hg := markAll_get ls a i hlt
    have hlm : i < (markAll a ls).length := by rw [markAll_length]; exact hlt
    rw [List.getElem?_eq_getElem hlm] at hg
    refine ev_step (fun k => laws_heldByteSS.l0.eq_2 _ _ _ _) (ev_pos (by rw [markAll_length]; omega) (ev_pos (by omega) ?_))
    rw [rdLL _ i hlm, Option.some.inj hg]
    refine ev_bind (heldByteS_ev ls[i].length (a + (offs ls i : Int)) (by omega) (by omega)) (ev_neg (by omega) ?_)
    rw [w64s (by omega), show a + (offs ls i : Int) + (ls[i].length : Int) = a + (offs ls (i + 1) : Int) by omega]
    exact ih (i + 1) (by omega)
theorem heldSS_ev (ls : List (List Int)) (a : Int) (h0 : 0 ≤ a) (hl : ls.length ≤ 1000000000) (h1 : a + (ls.flatten.length : Int) ≤ 4611686018427387904) : Ev (fun k => laws_heldByteSS.f k (markAll a ls) a) (a + (ls.flatten.length : Int)) := by
  have h := heldSS_l0 ls a h0 hl h1 ls.length 0 (by omega)
  unfold laws_heldByteSS.f
  have e : offs ls 0 = 0 := by simp [offs]
  rw [e] at h
  simpa using h
theorem flat_small {ls : List (List Int)} {n m : Nat} (hl : ls.length ≤ n) (hw : ∀ w ∈ ls, w.length ≤ m) : ls.flatten.length ≤ n * m := by
  have h : ls.flatten.length ≤ ls.length * m := by
    induction ls with
    | nil => simp
    | cons x ls ih =>
      rw [List.flatten_cons, List.length_append, List.length_cons, Nat.succ_mul]
      have h1 := hw x List.mem_cons_self
      have h2 := ih (by simp only [List.length_cons] at hl; omega) (fun w hm => hw w (List.mem_cons_of_mem _ hm))
      omega
  exact Nat.le_trans h (Nat.mul_le_mul_right m hl)
end Go.Proofs.Ytchmaojmknfbpaa.S

/- The laws' marks of a signature; the look at a SignResult that is marked. No condition beyond those in the statements. -/
set_option linter.unusedVariables false
set_option linter.unusedSimpArgs false
namespace Go.Proofs.Ytchmaojmknfbpaa.S
open Go Go.RowKit Go.Proofs.YtchmaojmknfbpaaW.PrintWords Go.Proofs.YtchmaojmknfbpaaW.PrintLast Go.Proofs.YtchmaojmknfbpaaW.PrintMore Go.Proofs.Ytchmaojmknfbpaa.Base
attribute [local go_sem] max2_int min2_int max_two min_two max_three min_three max_four min_four
set_option maxHeartbeats 80000000 in
set_option maxRecDepth 100000 in
theorem markProofG_calls (r3 : Int) (r4 : Int) (l1 l2 : List (List Int)) (a : Int) (h0 : 0 ≤ a) (n2 : Nat) (hn2 : l2.flatten.length = n2) (h1 : a + (n2 : Int) ≤ 4611686018427387904) (w0 w : World) (lo hi : Nat) (A1 A2 : Option Addr) (c2 : Nat) (hB : Below w0.heap.size w0 w) (hA : SG w0.heap.size w lo hi A1 l1 A2 l2) (hc2 : l2.length ≤ c2) (hl2 : l2.length ≤ 1000000000) (hh : hi ≤ w.heap.size) :
    Calls Try.prog 50 #[.agg #[.int .i64 r3, .int .i64 r4, .slice A2 l2.length c2], .int .i64 a] w fun e w' => e = .returned (.int .i64 (a + (n2 : Int))) ∧ SG w0.heap.size w' lo hi A1 l1 A2 (markAll a l2) ∧ Below w0.heap.size w0 w' ∧ Kept w w' (In lo hi) := by
  have hu1_ := Try.underlying29
  have hu2_ := Try.underlying27
  have hu3_ := Try.underlying25
  have HA1 := Aside0.mk hA
  have HB1 := Aside0.mk hB
  have H0 := Aside0.mk h0
  have H1 := Aside0.mk h1
  have HH := Aside0.mk hh
  have HC2 := Aside0.mk hc2
  have HL2 := Aside0.mk hl2
  have HN2 := Aside0.mk hn2
  clear hA hB h0 h1 hh hc2 hl2 hn2
  go_enter Try.func50, Try.ntmps50
  go_wp2_with (first | ((with_reducible refine gate_dst (N := 2) rfl ?_); refine hold_here ?_))
  refine hold_go ?_
  refine box_event (N := 2) (cs := #[.int .i64 r3, .int .i64 r4, .slice A2 l2.length c2]) (t := 25) ?hgb rfl ?hrb ?_
  case hgb => rfl
  case hrb => first | (go_simp; done) | (go_simp; rfl)
  intro g hg w1 hbox hb
  have HA2 := Aside0.mk (HA1.out.below hb)
  have HB2 := Aside0.mk (below_then HB1.out HB1.out.size hb)
  have HK2 := Aside0.mk (Kept.of_below hb (In lo hi))
  have HG := Aside0.mk (show hi ≤ g by rw [hg]; exact HH.out)
  have BX := Aside0.mk hbox
  clear HA1 HB1 hb hbox hg
  have hz0 : w1.cell? ⟨g, 0, none⟩ = some (.int .i64 r3) := (blk_cell BX.out 0).trans rfl
  have hf0 := blk_frozen BX.out 0
  have hz1 : w1.cell? ⟨g, 1, none⟩ = some (.int .i64 r4) := (blk_cell BX.out 1).trans rfl
  have hf1 := blk_frozen BX.out 1
  have hz2 : w1.cell? ⟨g, 2, none⟩ = some (.slice A2 l2.length c2) := (blk_cell BX.out 2).trans rfl
  have hf2 := blk_frozen BX.out 2
  go_wp2_with (first | ((with_reducible refine gate_callee (f := 49) rfl ?_); refine hold_here ?_))
  refine hold_go ?_
  refine goesL_ (some 8) rfl rfl Try.func49 (by kernel_rfl) rfl #[.slice A2 l2.length c2, .int .i64 a] rfl (by (try simp only [List.map_toArray, List.map_cons, List.map_nil]); first | done | rfl) ?_
  refine (markSG2_calls l1 l2 a H0.out n2 HN2.out H1.out w0 _ lo hi A1 A2 c2 HB2.out HA2.out HC2.out HL2.out).mono ?_
  rintro e w10 ⟨rfl, ha, hb2, hk⟩
  refine ⟨_, rfl, ?_⟩
  have HA3 := Aside0.mk ha
  have HB3 := Aside0.mk hb2
  have HK3 := Aside0.mk (HK2.out.then_ hk (fun k h => .inl h))
  have BX3 := Aside0.mk (blk_keptIn BX.out hk (.inr HG.out))
  clear hz0 hf0 hz1 hf1 hz2 hf2 ha hb2 hk HA2 HB2 HK2 BX
  have HA2 := HA3
  have HB2 := HB3
  have HK2 := HK3
  have BX := BX3
  clear HA3 HB3 HK3 BX3
  go_wp2
  go_ret
  exact ⟨rfl, HA2.out, HB2.out, HK2.out⟩
set_option maxHeartbeats 80000000 in
set_option maxRecDepth 100000 in
theorem markSignature_calls (r1 : Int) (r3 : Int) (r4 : Int) (l1 l2 : List (List Int)) (a : Int) (h0 : 0 ≤ a) (n1 : Nat) (hn1 : l1.flatten.length = n1) (n2 : Nat) (hn2 : l2.flatten.length = n2) (h1 : a + (n1 : Int) + (n2 : Int) ≤ 4611686018427387904) (w0 w : World) (lo hi : Nat) (A1 : Option Addr) (c1 : Nat) (A2 : Option Addr) (c2 : Nat) (hB : Below w0.heap.size w0 w) (hA : SG w0.heap.size w lo hi A1 l1 A2 l2) (hc1 : l1.length ≤ c1) (hc2 : l2.length ≤ c2) (hl1 : l1.length ≤ 1000000000) (hl2 : l2.length ≤ 1000000000) (hh : hi ≤ w.heap.size) :
    Calls Try.prog 21 #[.agg #[.int .i64 r1, .slice A1 l1.length c1, .int .i64 r3, .int .i64 r4, .slice A2 l2.length c2], .int .i64 a] w fun e w' => e = .returned (.int .i64 (a + (n1 : Int) + (n2 : Int))) ∧ SG w0.heap.size w' lo hi A1 (markAll a l1) A2 (markAll (a + (n1 : Int)) l2) ∧ Below w0.heap.size w0 w' ∧ Kept w w' (In lo hi) := by
  have hu1_ := Try.underlying29
  have hu2_ := Try.underlying27
  have hu3_ := Try.underlying25
  have HA1 := Aside0.mk hA
  have HB1 := Aside0.mk hB
  have H0 := Aside0.mk h0
  have H1 := Aside0.mk h1
  have HH := Aside0.mk hh
  have HC1 := Aside0.mk hc1
  have HL1 := Aside0.mk hl1
  have HN1 := Aside0.mk hn1
  have HC2 := Aside0.mk hc2
  have HL2 := Aside0.mk hl2
  have HN2 := Aside0.mk hn2
  clear hA hB h0 h1 hh hc1 hl1 hn1 hc2 hl2 hn2
  go_enter Try.func21, Try.ntmps21
  go_wp2_with (first | ((with_reducible refine gate_dst (N := 2) rfl ?_); refine hold_here ?_))
  refine hold_go ?_
  refine box_event (N := 2) (cs := #[.int .i64 r1, .slice A1 l1.length c1, .int .i64 r3, .int .i64 r4, .slice A2 l2.length c2]) (t := 27) ?hgb rfl ?hrb ?_
  case hgb => rfl
  case hrb => first | (go_simp; done) | (go_simp; rfl)
  intro g hg w1 hbox hb
  have HA2 := Aside0.mk (HA1.out.below hb)
  have HB2 := Aside0.mk (below_then HB1.out HB1.out.size hb)
  have HK2 := Aside0.mk (Kept.of_below hb (In lo hi))
  have HG := Aside0.mk (show hi ≤ g by rw [hg]; exact HH.out)
  have BX := Aside0.mk hbox
  clear HA1 HB1 hb hbox hg
  have hz0 : w1.cell? ⟨g, 0, none⟩ = some (.int .i64 r1) := (blk_cell BX.out 0).trans rfl
  have hf0 := blk_frozen BX.out 0
  have hz1 : w1.cell? ⟨g, 1, none⟩ = some (.slice A1 l1.length c1) := (blk_cell BX.out 1).trans rfl
  have hf1 := blk_frozen BX.out 1
  have hz2 : w1.cell? ⟨g, 2, none⟩ = some (.int .i64 r3) := (blk_cell BX.out 2).trans rfl
  have hf2 := blk_frozen BX.out 2
  have hz3 : w1.cell? ⟨g, 3, none⟩ = some (.int .i64 r4) := (blk_cell BX.out 3).trans rfl
  have hf3 := blk_frozen BX.out 3
  have hz4 : w1.cell? ⟨g, 4, none⟩ = some (.slice A2 l2.length c2) := (blk_cell BX.out 4).trans rfl
  have hf4 := blk_frozen BX.out 4
  go_wp2_with (first | ((with_reducible refine gate_callee (f := 49) rfl ?_); refine hold_here ?_))
  refine hold_go ?_
  refine goesL_ (some 8) rfl rfl Try.func49 (by kernel_rfl) rfl #[.slice A1 l1.length c1, .int .i64 a] rfl (by (try simp only [List.map_toArray, List.map_cons, List.map_nil]); first | done | rfl) ?_
  refine (markSG1_calls l1 l2 a H0.out n1 HN1.out (by have := H1.out; omega) w0 _ lo hi A1 A2 c1 HB2.out HA2.out HC1.out HL1.out).mono ?_
  rintro e w10 ⟨rfl, ha, hb2, hk⟩
  refine ⟨_, rfl, ?_⟩
  have HA3 := Aside0.mk ha
  have HB3 := Aside0.mk hb2
  have HK3 := Aside0.mk (HK2.out.then_ hk (fun k h => .inl h))
  have BX3 := Aside0.mk (blk_keptIn BX.out hk (.inr HG.out))
  clear hz0 hf0 hz1 hf1 hz2 hf2 hz3 hf3 hz4 hf4 ha hb2 hk HA2 HB2 HK2 BX
  have HA2 := HA3
  have HB2 := HB3
  have HK2 := HK3
  have BX := BX3
  clear HA3 HB3 HK3 BX3
  have hz0 : w10.cell? ⟨g, 0, none⟩ = some (.int .i64 r1) := (blk_cell BX.out 0).trans rfl
  have hf0 := blk_frozen BX.out 0
  have hz1 : w10.cell? ⟨g, 1, none⟩ = some (.slice A1 l1.length c1) := (blk_cell BX.out 1).trans rfl
  have hf1 := blk_frozen BX.out 1
  have hz2 : w10.cell? ⟨g, 2, none⟩ = some (.int .i64 r3) := (blk_cell BX.out 2).trans rfl
  have hf2 := blk_frozen BX.out 2
  have hz3 : w10.cell? ⟨g, 3, none⟩ = some (.int .i64 r4) := (blk_cell BX.out 3).trans rfl
  have hf3 := blk_frozen BX.out 3
  have hz4 : w10.cell? ⟨g, 4, none⟩ = some (.slice A2 l2.length c2) := (blk_cell BX.out 4).trans rfl
  have hf4 := blk_frozen BX.out 4
  go_wp2_with (first | ((with_reducible refine gate_callee (f := 50) rfl ?_); refine hold_here ?_))
  refine hold_go ?_
  refine goesL_ (some 12) rfl rfl Try.func50 (by kernel_rfl) rfl #[.agg #[.int .i64 r3, .int .i64 r4, .slice A2 l2.length c2], .int .i64 (a + (n1 : Int))] rfl (by (try simp only [List.map_toArray, List.map_cons, List.map_nil]); first | done | rfl) ?_
  refine (markProofG_calls r3 r4 (markAll a l1) l2 (a + (n1 : Int)) (by have := H0.out; omega) n2 HN2.out H1.out w0 _ lo hi A1 A2 c2 HB2.out HA2.out HC2.out HL2.out (Nat.le_trans HH.out HK2.out.1)).mono ?_
  rintro e w11 ⟨rfl, ha, hb2, hk⟩
  refine ⟨_, rfl, ?_⟩
  have HA3 := Aside0.mk ha
  have HB3 := Aside0.mk hb2
  have HK3 := Aside0.mk (HK2.out.then_ hk (fun k h => .inl h))
  have BX3 := Aside0.mk (blk_keptIn BX.out hk (.inr HG.out))
  clear hz0 hf0 hz1 hf1 hz2 hf2 hz3 hf3 hz4 hf4 ha hb2 hk HA2 HB2 HK2 BX
  have HA2 := HA3
  have HB2 := HB3
  have HK2 := HK3
  have BX := BX3
  clear HA3 HB3 HK3 BX3
  go_wp2
  go_ret
  exact ⟨rfl, HA2.out, HB2.out, HK2.out⟩
set_option maxHeartbeats 80000000 in
set_option maxRecDepth 100000 in
theorem markSignResult_calls (r0 : Int) (r1 : Int) (r3 : Int) (r4 : Int) (l1 l2 : List (List Int)) (a : Int) (h0 : 0 ≤ a) (n1 : Nat) (hn1 : l1.flatten.length = n1) (n2 : Nat) (hn2 : l2.flatten.length = n2) (h1 : a + (n1 : Int) + (n2 : Int) ≤ 4611686018427387904) (w0 w : World) (lo hi : Nat) (A1 : Option Addr) (c1 : Nat) (A2 : Option Addr) (c2 : Nat) (hB : Below w0.heap.size w0 w) (hA : SG w0.heap.size w lo hi A1 l1 A2 l2) (hc1 : l1.length ≤ c1) (hc2 : l2.length ≤ c2) (hl1 : l1.length ≤ 1000000000) (hl2 : l2.length ≤ 1000000000) (hh : hi ≤ w.heap.size) :
    Calls Try.prog 13 #[.agg #[.int .i64 r0, .int .i64 r1, .slice A1 l1.length c1, .int .i64 r3, .int .i64 r4, .slice A2 l2.length c2], .int .i64 a] w fun e w' => e = .returned (.int .i64 (a + (n1 : Int) + (n2 : Int))) ∧ SG w0.heap.size w' lo hi A1 (markAll a l1) A2 (markAll (a + (n1 : Int)) l2) ∧ Below w0.heap.size w0 w' ∧ Kept w w' (In lo hi) := by
  have hu1_ := Try.underlying29
  have hu2_ := Try.underlying27
  have hu3_ := Try.underlying25
  have HA1 := Aside0.mk hA
  have HB1 := Aside0.mk hB
  have H0 := Aside0.mk h0
  have H1 := Aside0.mk h1
  have HH := Aside0.mk hh
  have HC1 := Aside0.mk hc1
  have HL1 := Aside0.mk hl1
  have HN1 := Aside0.mk hn1
  have HC2 := Aside0.mk hc2
  have HL2 := Aside0.mk hl2
  have HN2 := Aside0.mk hn2
  clear hA hB h0 h1 hh hc1 hl1 hn1 hc2 hl2 hn2
  go_enter Try.func13, Try.ntmps13
  go_wp2_with (first | ((with_reducible refine gate_dst (N := 2) rfl ?_); refine hold_here ?_))
  refine hold_go ?_
  refine box_event (N := 2) (cs := #[.int .i64 r0, .int .i64 r1, .slice A1 l1.length c1, .int .i64 r3, .int .i64 r4, .slice A2 l2.length c2]) (t := 29) ?hgb rfl ?hrb ?_
  case hgb => rfl
  case hrb => first | (go_simp; done) | (go_simp; rfl)
  intro g hg w1 hbox hb
  have HA2 := Aside0.mk (HA1.out.below hb)
  have HB2 := Aside0.mk (below_then HB1.out HB1.out.size hb)
  have HK2 := Aside0.mk (Kept.of_below hb (In lo hi))
  have HG := Aside0.mk (show hi ≤ g by rw [hg]; exact HH.out)
  have BX := Aside0.mk hbox
  clear HA1 HB1 hb hbox hg
  have hz0 : w1.cell? ⟨g, 0, none⟩ = some (.int .i64 r0) := (blk_cell BX.out 0).trans rfl
  have hf0 := blk_frozen BX.out 0
  have hz1 : w1.cell? ⟨g, 1, none⟩ = some (.int .i64 r1) := (blk_cell BX.out 1).trans rfl
  have hf1 := blk_frozen BX.out 1
  have hz2 : w1.cell? ⟨g, 2, none⟩ = some (.slice A1 l1.length c1) := (blk_cell BX.out 2).trans rfl
  have hf2 := blk_frozen BX.out 2
  have hz3 : w1.cell? ⟨g, 3, none⟩ = some (.int .i64 r3) := (blk_cell BX.out 3).trans rfl
  have hf3 := blk_frozen BX.out 3
  have hz4 : w1.cell? ⟨g, 4, none⟩ = some (.int .i64 r4) := (blk_cell BX.out 4).trans rfl
  have hf4 := blk_frozen BX.out 4
  have hz5 : w1.cell? ⟨g, 5, none⟩ = some (.slice A2 l2.length c2) := (blk_cell BX.out 5).trans rfl
  have hf5 := blk_frozen BX.out 5
  go_wp2_with (first | ((with_reducible refine gate_callee (f := 21) rfl ?_); refine hold_here ?_))
  refine hold_go ?_
  refine goesL_ (some 8) rfl rfl Try.func21 (by kernel_rfl) rfl #[.agg #[.int .i64 r1, .slice A1 l1.length c1, .int .i64 r3, .int .i64 r4, .slice A2 l2.length c2], .int .i64 a] rfl (by (try simp only [List.map_toArray, List.map_cons, List.map_nil]); first | done | rfl) ?_
  refine (markSignature_calls r1 r3 r4 l1 l2 a H0.out n1 HN1.out n2 HN2.out H1.out w0 _ lo hi A1 c1 A2 c2 HB2.out HA2.out HC1.out HC2.out HL1.out HL2.out (Nat.le_trans HH.out HK2.out.1)).mono ?_
  rintro e w10 ⟨rfl, ha, hb2, hk⟩
  refine ⟨_, rfl, ?_⟩
  have HA3 := Aside0.mk ha
  have HB3 := Aside0.mk hb2
  have HK3 := Aside0.mk (HK2.out.then_ hk (fun k h => .inl h))
  have BX3 := Aside0.mk (blk_keptIn BX.out hk (.inr HG.out))
  clear hz0 hf0 hz1 hf1 hz2 hf2 hz3 hf3 hz4 hf4 hz5 hf5 ha hb2 hk HA2 HB2 HK2 BX
  have HA2 := HA3
  have HB2 := HB3
  have HK2 := HK3
  have BX := BX3
  clear HA3 HB3 HK3 BX3
  go_wp2
  go_ret
  exact ⟨rfl, HA2.out, HB2.out, HK2.out⟩
theorem heldSignResult_len (k : Nat) (r0 r1 r3 r4 : Int) (A1 : Option Addr) (c1 : Nat) (A2 : Option Addr) (c2 : Nat) (m1 : List (List Int)) (n1 : Nat) (h1 : m1.length = n1) (m2 : List (List Int)) (n2 : Nat) (h2 : m2.length = n2) (a r : Int) (w : World) (hr1 : Kd.C (Kd.slice 5 (Kd.int .u8)) w A1 m1.length m1) (hc1 : n1 ≤ c1) (hr2 : Kd.C (Kd.slice 5 (Kd.int .u8)) w A2 m2.length m2) (hc2 : n2 ≤ c2) (h : laws_heldSignResult.f k r0 r1 m1 r3 r4 m2 a = some r) :
    Calls Try.prog 14 #[.agg #[.int .i64 r0, .int .i64 r1, .slice A1 n1 c1, .int .i64 r3, .int .i64 r4, .slice A2 n2 c2], .int .i64 a] w fun e w' => e = .returned (.int .i64 r) ∧ Below w.heap.size w w' := by
  subst h1 h2
  exact laws_heldSignResult.calls k r0 r1 A1 c1 m1 r3 r4 A2 c2 m2 a r w hr1 hc1 hr2 hc2 h

end Go.Proofs.Ytchmaojmknfbpaa.S

/- The walk over the law FnExactUnpackSign: the program and the reference are called, compared, and what they hold is marked. No condition beyond those in the statements. -/
set_option linter.unusedVariables false
set_option linter.unusedSimpArgs false
namespace Go.Proofs.Ytchmaojmknfbpaa.S
open Go Go.RowKit Go.Proofs.YtchmaojmknfbpaaW.PrintWords Go.Proofs.YtchmaojmknfbpaaW.PrintLast Go.Proofs.YtchmaojmknfbpaaW.PrintMore Go.Proofs.Ytchmaojmknfbpaa.Base
attribute [local go_sem] max2_int min2_int max_two min_two max_three min_three max_four min_four

set_option maxHeartbeats 80000000 in
set_option maxRecDepth 100000 in
theorem law_UnpackSign (A0 : Option Addr) (c0 : Nat) (l0 : List Int) (q0 : Int) (q1 : Int) (rs2 : List (List Int)) (q3 : Int) (q4 : Int) (rs5 : List (List Int)) (ml0 : List Int) (n1 n2 : Nat) (mr1 mr2 : List (List Int)) (w : World) (hr0 : Kd.C (Kd.int .u8) w A0 l0.length l0) (hc0 : l0.length ≤ c0) (hlen0 : l0.length ≤ 1048576)
    (ke0 keqr khr km0 kt0 : Nat) (h_t0 : laws_toByteS.f kt0 l0 = some l0) (h_e0 : laws_eqByteS.f ke0 l0 l0 = some true) (h_spec : ∀ (B0 : Option Addr) (d0 : Nat) (W : World), Kd.C (Kd.int .u8) W B0 l0.length l0 → l0.length ≤ d0 → Calls Try.prog 24 #[.slice B0 l0.length d0] W (fun e w' => ∃ R2 e2 R5 e5, e = .returned (.agg #[.int .i64 q0, .int .i64 q1, .slice R2 rs2.length e2, .int .i64 q3, .int .i64 q4, .slice R5 rs5.length e5]) ∧ rs2.length ≤ e2 ∧ rs5.length ≤ e5 ∧ AR W.heap.size w' W.heap.size w'.heap.size R2 rs2 ∧ AR W.heap.size w' W.heap.size w'.heap.size R5 rs5 ∧ Below W.heap.size W w')) (h_impl : ∀ (B0 : Option Addr) (d0 : Nat) (W : World), Kd.C (Kd.int .u8) W B0 l0.length l0 → l0.length ≤ d0 → Calls Try.prog 25 #[.slice B0 l0.length d0] W (fun e w' => ∃ R2 e2 R5 e5, e = .returned (.agg #[.int .i64 q0, .int .i64 q1, .slice R2 rs2.length e2, .int .i64 q3, .int .i64 q4, .slice R5 rs5.length e5]) ∧ rs2.length ≤ e2 ∧ rs5.length ≤ e5 ∧ SG W.heap.size w' W.heap.size w'.heap.size R2 rs2 R5 rs5 ∧ Below W.heap.size W w')) (h_eqr : laws_eqSignResult.f keqr q0 q1 rs2 q3 q4 rs5 q0 q1 rs2 q3 q4 rs5 = some true) (h_m0 : laws_markByteS.f km0 l0 (1) = some (1 + (l0.length : Int), ml0)) (h_n1 : rs2.flatten.length = n1) (h_u1 : rs2.length ≤ 1000000000) (h_n2 : rs5.flatten.length = n2) (h_u2 : rs5.length ≤ 1000000000) (h_pr : (1 : Int) + (n1 : Int) + (n2 : Int) ≤ 4611686018427387904) (h_q1 : markAll 1 rs2 = mr1) (h_q2 : markAll (1 + (n1 : Int)) rs5 = mr2) (h_r1 : mr1.length = rs2.length) (h_r2 : mr2.length = rs5.length) (h_hr : laws_heldSignResult.f khr q0 q1 mr1 q3 q4 mr2 1 = some (1 + (n1 : Int) + (n2 : Int))) :
    Calls Try.prog 5 #[.slice A0 l0.length c0] w fun e w' => e = .returned (.bool true) ∧ Below w.heap.size w w' := by
  have HR0 := Aside0.mk hr0
  have HC0 := Aside0.mk hc0
  have H_t0 := Aside0.mk h_t0
  have H_e0 := Aside0.mk h_e0
  have H_spec := Aside0.mk h_spec
  have H_impl := Aside0.mk h_impl
  have H_eqr := Aside0.mk h_eqr
  have H_m0 := Aside0.mk h_m0
  have H_n1 := Aside0.mk h_n1
  have H_u1 := Aside0.mk h_u1
  have H_n2 := Aside0.mk h_n2
  have H_u2 := Aside0.mk h_u2
  have H_pr := Aside0.mk h_pr
  have H_q1 := Aside0.mk h_q1
  have H_q2 := Aside0.mk h_q2
  have H_r1 := Aside0.mk h_r1
  have H_r2 := Aside0.mk h_r2
  have H_hr := Aside0.mk h_hr
  have HB := Aside0.mk (Below.refl w.heap.size w)
  have ZZ := Aside0.mk (Nat.le_refl w.heap.size)
  have cg0_ : decide ((l0.length : Int) > 1048576) = false := decide_eq_false (by omega)
  have ch0_ : decide ((1048576 : Int) < (l0.length : Int)) = false := decide_eq_false (by omega)
  have cz_ : decide ((1 + (n1 : Int) + (n2 : Int)) < 0) = false := decide_eq_false (by omega)
  have cy_ : decide ((1 + (l0.length : Int)) < 0) = false := decide_eq_false (by omega)
  have hud_ := Try.underlying29
  have hue_ := Try.underlying27
  have huf_ := Try.underlying25
  clear hr0 hc0 hlen0 h_t0 h_e0 h_spec h_impl h_eqr h_m0 h_n1 h_u1 h_n2 h_u2 h_pr h_q1 h_q2 h_r1 h_r2 h_hr
  go_enter Try.func5, Try.ntmps5
  go_wp2_with (first | (go_at_call 8; refine hold_here ?_))
  refine hold_go ?_
  refine (laws_toByteS.calls _ A0 c0 l0 l0 _ ?s1 ?s2 H_t0.out).mono ?_
  case s1 => exact Kd.C_below HR0.out HB.out
  case s2 => exact HC0.out
  rintro e w1_ ⟨v, rfl, ho, hb⟩
  replace HB := Aside0.mk (below_step HB.out hb)
  replace ZZ := Aside0.mk (And.intro ZZ.out (show w.heap.size ≤ w1_.heap.size from hb.size))
  obtain ⟨A_T0, c_T0, ev_, hA_T0⟩ := B_of_R (base := w.heap.size) ho (show w.heap.size ≤ w.heap.size from (by have h_ := ZZ.out; omega))
  subst ev_
  have T0 := Aside0.mk (show Kd.R (Kd.int .u8) 5 w1_ w.heap.size (In w.heap.size w1_.heap.size) (.slice A_T0 l0.length c_T0) l0 from hA_T0)
  clear hA_T0 ho
  clear hb
  go_wp2_with (first | (go_at_call 24; refine hold_here ?_))
  refine hold_go ?_
  refine (H_spec.out A_T0 c_T0 _ ?s1 ?s2).mono ?_
  case s1 => exact (Kd.R_reads' T0.out).2.2
  case s2 => exact (Kd.R_reads' T0.out).2.1
  rintro e w2_ ⟨A_W2, c_W2, A_W5, c_W5, rfl, hc_2, hc_5, ha_2, ha_5, hb⟩
  replace T0 := Aside0.mk (Kd.R_below T0.out hb)
  replace HB := Aside0.mk (below_step HB.out hb)
  replace ZZ := Aside0.mk (And.intro ZZ.out (show w1_.heap.size ≤ w2_.heap.size from hb.size))
  have HC_W2 := Aside0.mk hc_2
  have W2 := Aside0.mk (show AR w.heap.size w2_ w1_.heap.size w2_.heap.size A_W2 rs2 from AR.lower ha_2 (by have h_ := ZZ.out; omega))
  have HC_W5 := Aside0.mk hc_5
  have W5 := Aside0.mk (show AR w.heap.size w2_ w1_.heap.size w2_.heap.size A_W5 rs5 from AR.lower ha_5 (by have h_ := ZZ.out; omega))
  clear ha_2 hc_2 ha_5 hc_5
  clear hb
  go_wp2_with (first | ((with_reducible refine gate_dst (N := 3) rfl ?_); refine hold_here ?_))
  refine hold_go ?_
  refine box_event (N := 3) (cs := #[.int .i64 0, .int .i64 0, .slice none 0 0, .int .i64 0, .int .i64 0, .slice none 0 0]) (t := 29) ?hgb rfl ?hrb ?_
  case hgb => rfl
  case hrb => first | (go_simp; done) | (go_simp; rfl)
  intro g3_ hg w3_ hbox hb
  replace T0 := Aside0.mk (Kd.R_below T0.out hb)
  replace W2 := Aside0.mk (AR.below W2.out hb)
  replace W5 := Aside0.mk (AR.below W5.out hb)
  replace HB := Aside0.mk (below_step HB.out hb)
  replace ZZ := Aside0.mk (And.intro ZZ.out (show w2_.heap.size ≤ w3_.heap.size from hb.size))
  have BK3 := Aside0.mk hbox
  replace ZZ := Aside0.mk (And.intro ZZ.out (And.intro (show g3_ = w2_.heap.size from hg) (show g3_ < w3_.heap.size from blk_lt hbox)))
  clear hb hbox hg
  go_wp2_with (first | ((with_reducible refine gate_store (t := 29) (p := 3) (v := .tmp 15) rfl ?_); refine hold_here ?_))
  refine hold_go ?_
  refine row_store rfl 29 (.tmp 3) (.tmp 15) rfl g3_ #[.int .i64 q0, .int .i64 q1, .slice A_W2 rs2.length c_W2, .int .i64 q3, .int .i64 q4, .slice A_W5 rs5.length c_W5] rfl ?hy 29 _ BK3.out ?hi ?ho ?h1 rfl HB.out (show w.heap.size ≤ g3_ from (by have h_ := ZZ.out; omega)) ?_
  case hy => rfl
  case hi => kernel_rfl
  case ho => rfl
  case h1 => first | rfl | (simp [Value.oneCell']; done) | (go_simp; done)
  intro w4_ bo hk hb2
  clear BK3
  replace T0 := Aside0.mk (B_kept T0.out hk (by have h_ := ZZ.out; omega))
  replace W2 := Aside0.mk (AR.kept W2.out hk (by have h_ := ZZ.out; omega))
  replace W5 := Aside0.mk (AR.kept W5.out hk (by have h_ := ZZ.out; omega))
  replace HB := Aside0.mk hb2
  replace ZZ := Aside0.mk (And.intro ZZ.out (show w3_.heap.size ≤ w4_.heap.size from hk.1))
  have BK3 := Aside0.mk bo
  clear bo hk hb2
  clear T0
  go_wp2_with (first | (go_at_call 8; refine hold_here ?_))
  refine hold_go ?_
  refine (laws_toByteS.calls _ A0 c0 l0 l0 _ ?s1 ?s2 H_t0.out).mono ?_
  case s1 => exact Kd.C_below HR0.out HB.out
  case s2 => exact HC0.out
  rintro e w5_ ⟨v, rfl, ho, hb⟩
  replace W2 := Aside0.mk (AR.below W2.out hb)
  replace W5 := Aside0.mk (AR.below W5.out hb)
  replace BK3 := Aside0.mk (blk_below BK3.out hb)
  replace HB := Aside0.mk (below_step HB.out hb)
  replace ZZ := Aside0.mk (And.intro ZZ.out (show w4_.heap.size ≤ w5_.heap.size from hb.size))
  obtain ⟨A_X0_, c_X0_, ev_, hA_X0_⟩ := B_of_R (base := w.heap.size) ho (show w.heap.size ≤ w4_.heap.size from (by have h_ := ZZ.out; omega))
  subst ev_
  have X0_ := Aside0.mk (show Kd.R (Kd.int .u8) 5 w5_ w.heap.size (In w4_.heap.size w5_.heap.size) (.slice A_X0_ l0.length c_X0_) l0 from hA_X0_)
  clear hA_X0_ ho
  clear hb
  have Y0 := X0_
  clear X0_
  obtain ⟨A_Y0, eA_⟩ : ∃ A, A = A_X0_ := ⟨_, rfl⟩
  subst eA_
  obtain ⟨c_Y0, eC_⟩ : ∃ c, c = c_X0_ := ⟨_, rfl⟩
  subst eC_
  go_wp2_with (first | (go_at_call 25; refine hold_here ?_))
  refine hold_go ?_
  refine (H_impl.out A_Y0 c_Y0 _ ?s1 ?s2).mono ?_
  case s1 => exact (Kd.R_reads' Y0.out).2.2
  case s2 => exact (Kd.R_reads' Y0.out).2.1
  rintro e w6_ ⟨A_G2, c_G2, A_G5, c_G5, rfl, hc_2, hc_5, ha, hb⟩
  replace W2 := Aside0.mk (AR.below W2.out hb)
  replace W5 := Aside0.mk (AR.below W5.out hb)
  replace BK3 := Aside0.mk (blk_below BK3.out hb)
  replace Y0 := Aside0.mk (Kd.R_below Y0.out hb)
  replace HB := Aside0.mk (below_step HB.out hb)
  replace ZZ := Aside0.mk (And.intro ZZ.out (show w5_.heap.size ≤ w6_.heap.size from hb.size))
  have HC_G2 := Aside0.mk hc_2
  have HC_G5 := Aside0.mk hc_5
  have G := Aside0.mk (show SG w.heap.size w6_ w5_.heap.size w6_.heap.size A_G2 rs2 A_G5 rs5 from SG.lower ha (by have h_ := ZZ.out; omega))
  clear ha hc_2 hc_5
  clear hb
  go_wp2_with (first | ((with_reducible refine gate_dst (N := 5) rfl ?_); refine hold_here ?_))
  refine hold_go ?_
  refine box_event (N := 5) (cs := #[.int .i64 0, .int .i64 0, .slice none 0 0, .int .i64 0, .int .i64 0, .slice none 0 0]) (t := 29) ?hgb rfl ?hrb ?_
  case hgb => rfl
  case hrb => first | (go_simp; done) | (go_simp; rfl)
  intro g5_ hg w7_ hbox hb
  replace W2 := Aside0.mk (AR.below W2.out hb)
  replace W5 := Aside0.mk (AR.below W5.out hb)
  replace BK3 := Aside0.mk (blk_below BK3.out hb)
  replace Y0 := Aside0.mk (Kd.R_below Y0.out hb)
  replace G := Aside0.mk (SG.below G.out hb)
  replace HB := Aside0.mk (below_step HB.out hb)
  replace ZZ := Aside0.mk (And.intro ZZ.out (show w6_.heap.size ≤ w7_.heap.size from hb.size))
  have BK5 := Aside0.mk hbox
  replace ZZ := Aside0.mk (And.intro ZZ.out (And.intro (show g5_ = w6_.heap.size from hg) (show g5_ < w7_.heap.size from blk_lt hbox)))
  clear hb hbox hg
  go_wp2_with (first | ((with_reducible refine gate_store (t := 29) (p := 5) (v := .tmp 19) rfl ?_); refine hold_here ?_))
  refine hold_go ?_
  refine row_store rfl 29 (.tmp 5) (.tmp 19) rfl g5_ #[.int .i64 q0, .int .i64 q1, .slice A_G2 rs2.length c_G2, .int .i64 q3, .int .i64 q4, .slice A_G5 rs5.length c_G5] rfl ?hy 29 _ BK5.out ?hi ?ho ?h1 rfl HB.out (show w.heap.size ≤ g5_ from (by have h_ := ZZ.out; omega)) ?_
  case hy => rfl
  case hi => kernel_rfl
  case ho => rfl
  case h1 => first | rfl | (simp [Value.oneCell']; done) | (go_simp; done)
  intro w8_ bo hk hb2
  clear BK5
  replace W2 := Aside0.mk (AR.kept W2.out hk (by have h_ := ZZ.out; omega))
  replace W5 := Aside0.mk (AR.kept W5.out hk (by have h_ := ZZ.out; omega))
  replace BK3 := Aside0.mk (blk_keptIn BK3.out hk (by have h_ := ZZ.out; omega))
  replace Y0 := Aside0.mk (B_kept Y0.out hk (by have h_ := ZZ.out; omega))
  replace G := Aside0.mk (SG.kept G.out hk (by have h_ := ZZ.out; omega))
  replace HB := Aside0.mk hb2
  replace ZZ := Aside0.mk (And.intro ZZ.out (show w7_.heap.size ≤ w8_.heap.size from hk.1))
  have BK5 := Aside0.mk bo
  clear bo hk hb2
  have hz_BK5_0 : w8_.cell? ⟨g5_, 0, none⟩ = some (.int .i64 q0) := (blk_cell BK5.out 0).trans rfl
  have hz_BK5_1 : w8_.cell? ⟨g5_, 1, none⟩ = some (.int .i64 q1) := (blk_cell BK5.out 1).trans rfl
  have hz_BK5_2 : w8_.cell? ⟨g5_, 2, none⟩ = some (.slice A_G2 rs2.length c_G2) := (blk_cell BK5.out 2).trans rfl
  have hz_BK5_3 : w8_.cell? ⟨g5_, 3, none⟩ = some (.int .i64 q3) := (blk_cell BK5.out 3).trans rfl
  have hz_BK5_4 : w8_.cell? ⟨g5_, 4, none⟩ = some (.int .i64 q4) := (blk_cell BK5.out 4).trans rfl
  have hz_BK5_5 : w8_.cell? ⟨g5_, 5, none⟩ = some (.slice A_G5 rs5.length c_G5) := (blk_cell BK5.out 5).trans rfl
  have hz_BK3_0 : w8_.cell? ⟨g3_, 0, none⟩ = some (.int .i64 q0) := (blk_cell BK3.out 0).trans rfl
  have hz_BK3_1 : w8_.cell? ⟨g3_, 1, none⟩ = some (.int .i64 q1) := (blk_cell BK3.out 1).trans rfl
  have hz_BK3_2 : w8_.cell? ⟨g3_, 2, none⟩ = some (.slice A_W2 rs2.length c_W2) := (blk_cell BK3.out 2).trans rfl
  have hz_BK3_3 : w8_.cell? ⟨g3_, 3, none⟩ = some (.int .i64 q3) := (blk_cell BK3.out 3).trans rfl
  have hz_BK3_4 : w8_.cell? ⟨g3_, 4, none⟩ = some (.int .i64 q4) := (blk_cell BK3.out 4).trans rfl
  have hz_BK3_5 : w8_.cell? ⟨g3_, 5, none⟩ = some (.slice A_W5 rs5.length c_W5) := (blk_cell BK3.out 5).trans rfl
  go_wp2_with (first | (go_at_call 10; refine hold_here ?_))
  refine hold_go ?_
  refine (laws_eqSignResult.calls _ q0 q1 A_G2 c_G2 rs2 q3 q4 A_G5 c_G5 rs5 q0 q1 A_W2 c_W2 rs2 q3 q4 A_W5 c_W5 rs5 true _ ?s1 ?s2 ?s3 ?s4 ?s5 ?s6 ?s7 ?s8 H_eqr.out).mono ?_
  case s1 => exact Kd.F_now (AR.foot (SG.ar1 G.out))
  case s2 => exact HC_G2.out
  case s3 => exact Kd.F_now (AR.foot (SG.ar2 G.out))
  case s4 => exact HC_G5.out
  case s5 => exact Kd.F_now (AR.foot W2.out)
  case s6 => exact HC_W2.out
  case s7 => exact Kd.F_now (AR.foot W5.out)
  case s8 => exact HC_W5.out
  rintro e w9_ ⟨rfl, hb⟩
  replace W2 := Aside0.mk (AR.below W2.out hb)
  replace W5 := Aside0.mk (AR.below W5.out hb)
  replace BK3 := Aside0.mk (blk_below BK3.out hb)
  replace Y0 := Aside0.mk (Kd.R_below Y0.out hb)
  replace G := Aside0.mk (SG.below G.out hb)
  replace BK5 := Aside0.mk (blk_below BK5.out hb)
  replace HB := Aside0.mk (below_step HB.out hb)
  clear hz_BK5_0 hz_BK5_1 hz_BK5_2 hz_BK5_3 hz_BK5_4 hz_BK5_5 hz_BK3_0 hz_BK3_1 hz_BK3_2 hz_BK3_3 hz_BK3_4 hz_BK3_5
  replace ZZ := Aside0.mk (And.intro ZZ.out (show w8_.heap.size ≤ w9_.heap.size from hb.size))
  clear hb
  go_wp2_with (first | (go_at_call 8; refine hold_here ?_))
  refine hold_go ?_
  refine (laws_toByteS.calls _ A0 c0 l0 l0 _ ?s1 ?s2 H_t0.out).mono ?_
  case s1 => exact Kd.C_below HR0.out HB.out
  case s2 => exact HC0.out
  rintro e w10_ ⟨v, rfl, ho, hb⟩
  replace W2 := Aside0.mk (AR.below W2.out hb)
  replace W5 := Aside0.mk (AR.below W5.out hb)
  replace BK3 := Aside0.mk (blk_below BK3.out hb)
  replace Y0 := Aside0.mk (Kd.R_below Y0.out hb)
  replace G := Aside0.mk (SG.below G.out hb)
  replace BK5 := Aside0.mk (blk_below BK5.out hb)
  replace HB := Aside0.mk (below_step HB.out hb)
  replace ZZ := Aside0.mk (And.intro ZZ.out (show w9_.heap.size ≤ w10_.heap.size from hb.size))
  obtain ⟨A_T0, c_T0, ev_, hA_T0⟩ := B_of_R (base := w.heap.size) ho (show w.heap.size ≤ w9_.heap.size from (by have h_ := ZZ.out; omega))
  subst ev_
  have T0 := Aside0.mk (show Kd.R (Kd.int .u8) 5 w10_ w.heap.size (In w9_.heap.size w10_.heap.size) (.slice A_T0 l0.length c_T0) l0 from hA_T0)
  clear hA_T0 ho
  clear hb
  go_wp2_with (first | (go_at_call 11; refine hold_here ?_))
  refine hold_go ?_
  refine (laws_eqByteS.calls _ A_Y0 c_Y0 l0 A_T0 c_T0 l0 true _ ?s1 ?s2 ?s3 ?s4 H_e0.out).mono ?_
  case s1 => exact (Kd.R_reads' Y0.out).2.2
  case s2 => exact (Kd.R_reads' Y0.out).2.1
  case s3 => exact (Kd.R_reads' T0.out).2.2
  case s4 => exact (Kd.R_reads' T0.out).2.1
  rintro e w11_ ⟨rfl, hd⟩
  have hb := hd.below
  clear hd
  replace W2 := Aside0.mk (AR.below W2.out hb)
  replace W5 := Aside0.mk (AR.below W5.out hb)
  replace BK3 := Aside0.mk (blk_below BK3.out hb)
  replace Y0 := Aside0.mk (Kd.R_below Y0.out hb)
  replace G := Aside0.mk (SG.below G.out hb)
  replace BK5 := Aside0.mk (blk_below BK5.out hb)
  replace T0 := Aside0.mk (Kd.R_below T0.out hb)
  replace HB := Aside0.mk (below_step HB.out hb)
  replace ZZ := Aside0.mk (And.intro ZZ.out (show w10_.heap.size ≤ w11_.heap.size from hb.size))
  clear hb
  clear T0
  go_wp2_with (first | (go_at_call 12; refine hold_here ?_))
  refine hold_go ?_
  refine (laws_markByteS.calls _ (In w4_.heap.size w5_.heap.size) (.slice A_Y0 l0.length c_Y0) l0 (1) _ _ w _ ?s1 ?s2 H_m0.out).mono ?_
  case s1 => exact HB.out
  case s2 => exact Y0.out
  rintro e w12_ ⟨rfl, hR, hb2, hk⟩
  clear Y0
  replace W2 := Aside0.mk (AR.kept W2.out hk (by have h_ := ZZ.out; omega))
  replace W5 := Aside0.mk (AR.kept W5.out hk (by have h_ := ZZ.out; omega))
  replace BK3 := Aside0.mk (blk_keptIn BK3.out hk (by have h_ := ZZ.out; omega))
  replace G := Aside0.mk (SG.kept G.out hk (by have h_ := ZZ.out; omega))
  replace BK5 := Aside0.mk (blk_keptIn BK5.out hk (by have h_ := ZZ.out; omega))
  replace HB := Aside0.mk hb2
  replace ZZ := Aside0.mk (And.intro ZZ.out (show w11_.heap.size ≤ w12_.heap.size from hk.1))
  clear hR
  clear hk hb2
  have hz_BK5_0 : w12_.cell? ⟨g5_, 0, none⟩ = some (.int .i64 q0) := (blk_cell BK5.out 0).trans rfl
  have hz_BK5_1 : w12_.cell? ⟨g5_, 1, none⟩ = some (.int .i64 q1) := (blk_cell BK5.out 1).trans rfl
  have hz_BK5_2 : w12_.cell? ⟨g5_, 2, none⟩ = some (.slice A_G2 rs2.length c_G2) := (blk_cell BK5.out 2).trans rfl
  have hz_BK5_3 : w12_.cell? ⟨g5_, 3, none⟩ = some (.int .i64 q3) := (blk_cell BK5.out 3).trans rfl
  have hz_BK5_4 : w12_.cell? ⟨g5_, 4, none⟩ = some (.int .i64 q4) := (blk_cell BK5.out 4).trans rfl
  have hz_BK5_5 : w12_.cell? ⟨g5_, 5, none⟩ = some (.slice A_G5 rs5.length c_G5) := (blk_cell BK5.out 5).trans rfl
  have hz_BK3_0 : w12_.cell? ⟨g3_, 0, none⟩ = some (.int .i64 q0) := (blk_cell BK3.out 0).trans rfl
  have hz_BK3_1 : w12_.cell? ⟨g3_, 1, none⟩ = some (.int .i64 q1) := (blk_cell BK3.out 1).trans rfl
  have hz_BK3_2 : w12_.cell? ⟨g3_, 2, none⟩ = some (.slice A_W2 rs2.length c_W2) := (blk_cell BK3.out 2).trans rfl
  have hz_BK3_3 : w12_.cell? ⟨g3_, 3, none⟩ = some (.int .i64 q3) := (blk_cell BK3.out 3).trans rfl
  have hz_BK3_4 : w12_.cell? ⟨g3_, 4, none⟩ = some (.int .i64 q4) := (blk_cell BK3.out 4).trans rfl
  have hz_BK3_5 : w12_.cell? ⟨g3_, 5, none⟩ = some (.slice A_W5 rs5.length c_W5) := (blk_cell BK3.out 5).trans rfl
  go_wp2_with (first | (go_at_call 10; refine hold_here ?_))
  refine hold_go ?_
  refine (laws_eqSignResult.calls _ q0 q1 A_G2 c_G2 rs2 q3 q4 A_G5 c_G5 rs5 q0 q1 A_W2 c_W2 rs2 q3 q4 A_W5 c_W5 rs5 true _ ?s1 ?s2 ?s3 ?s4 ?s5 ?s6 ?s7 ?s8 H_eqr.out).mono ?_
  case s1 => exact Kd.F_now (AR.foot (SG.ar1 G.out))
  case s2 => exact HC_G2.out
  case s3 => exact Kd.F_now (AR.foot (SG.ar2 G.out))
  case s4 => exact HC_G5.out
  case s5 => exact Kd.F_now (AR.foot W2.out)
  case s6 => exact HC_W2.out
  case s7 => exact Kd.F_now (AR.foot W5.out)
  case s8 => exact HC_W5.out
  rintro e w13_ ⟨rfl, hb⟩
  replace W2 := Aside0.mk (AR.below W2.out hb)
  replace W5 := Aside0.mk (AR.below W5.out hb)
  replace BK3 := Aside0.mk (blk_below BK3.out hb)
  replace G := Aside0.mk (SG.below G.out hb)
  replace BK5 := Aside0.mk (blk_below BK5.out hb)
  replace HB := Aside0.mk (below_step HB.out hb)
  clear hz_BK5_0 hz_BK5_1 hz_BK5_2 hz_BK5_3 hz_BK5_4 hz_BK5_5 hz_BK3_0 hz_BK3_1 hz_BK3_2 hz_BK3_3 hz_BK3_4 hz_BK3_5
  replace ZZ := Aside0.mk (And.intro ZZ.out (show w12_.heap.size ≤ w13_.heap.size from hb.size))
  clear hb
  have hz_BK5_0 : w13_.cell? ⟨g5_, 0, none⟩ = some (.int .i64 q0) := (blk_cell BK5.out 0).trans rfl
  have hz_BK5_1 : w13_.cell? ⟨g5_, 1, none⟩ = some (.int .i64 q1) := (blk_cell BK5.out 1).trans rfl
  have hz_BK5_2 : w13_.cell? ⟨g5_, 2, none⟩ = some (.slice A_G2 rs2.length c_G2) := (blk_cell BK5.out 2).trans rfl
  have hz_BK5_3 : w13_.cell? ⟨g5_, 3, none⟩ = some (.int .i64 q3) := (blk_cell BK5.out 3).trans rfl
  have hz_BK5_4 : w13_.cell? ⟨g5_, 4, none⟩ = some (.int .i64 q4) := (blk_cell BK5.out 4).trans rfl
  have hz_BK5_5 : w13_.cell? ⟨g5_, 5, none⟩ = some (.slice A_G5 rs5.length c_G5) := (blk_cell BK5.out 5).trans rfl
  go_wp2_with (first | (go_at_call 13; refine hold_here ?_))
  refine hold_go ?_
  refine (markSignResult_calls q0 q1 q3 q4 rs2 rs5 1 (by decide) n1 H_n1.out n2 H_n2.out H_pr.out w _ w5_.heap.size w6_.heap.size A_G2 c_G2 A_G5 c_G5 ?s1 ?s2 ?s3 ?s4 H_u1.out H_u2.out (by have h_ := ZZ.out; omega)).mono ?_
  case s1 => exact HB.out
  case s2 => exact G.out
  case s3 => exact HC_G2.out
  case s4 => exact HC_G5.out
  rintro e w14_ ⟨rfl, ha, hb2, hk⟩
  clear G
  replace W2 := Aside0.mk (AR.kept W2.out hk (by have h_ := ZZ.out; omega))
  replace W5 := Aside0.mk (AR.kept W5.out hk (by have h_ := ZZ.out; omega))
  replace BK3 := Aside0.mk (blk_keptIn BK3.out hk (by have h_ := ZZ.out; omega))
  replace BK5 := Aside0.mk (blk_keptIn BK5.out hk (by have h_ := ZZ.out; omega))
  replace HB := Aside0.mk hb2
  clear hz_BK5_0 hz_BK5_1 hz_BK5_2 hz_BK5_3 hz_BK5_4 hz_BK5_5
  replace ZZ := Aside0.mk (And.intro ZZ.out (show w13_.heap.size ≤ w14_.heap.size from hk.1))
  rw [H_q1.out, H_q2.out] at ha
  have G := Aside0.mk ha
  clear ha
  clear hk hb2
  have hz_BK5_0 : w14_.cell? ⟨g5_, 0, none⟩ = some (.int .i64 q0) := (blk_cell BK5.out 0).trans rfl
  have hz_BK5_1 : w14_.cell? ⟨g5_, 1, none⟩ = some (.int .i64 q1) := (blk_cell BK5.out 1).trans rfl
  have hz_BK5_2 : w14_.cell? ⟨g5_, 2, none⟩ = some (.slice A_G2 rs2.length c_G2) := (blk_cell BK5.out 2).trans rfl
  have hz_BK5_3 : w14_.cell? ⟨g5_, 3, none⟩ = some (.int .i64 q3) := (blk_cell BK5.out 3).trans rfl
  have hz_BK5_4 : w14_.cell? ⟨g5_, 4, none⟩ = some (.int .i64 q4) := (blk_cell BK5.out 4).trans rfl
  have hz_BK5_5 : w14_.cell? ⟨g5_, 5, none⟩ = some (.slice A_G5 rs5.length c_G5) := (blk_cell BK5.out 5).trans rfl
  go_wp2_with (first | (go_at_call 14; refine hold_here ?_))
  refine hold_go ?_
  refine (heldSignResult_len _ q0 q1 q3 q4 A_G2 c_G2 A_G5 c_G5 mr1 rs2.length H_r1.out mr2 rs5.length H_r2.out 1 _ _ ?s1 ?s2 ?s3 ?s4 H_hr.out).mono ?_
  case s1 => exact Kd.F_now (AR.foot (SG.ar1 G.out))
  case s2 => exact HC_G2.out
  case s3 => exact Kd.F_now (AR.foot (SG.ar2 G.out))
  case s4 => exact HC_G5.out
  rintro e w15_ ⟨rfl, hb⟩
  replace W2 := Aside0.mk (AR.below W2.out hb)
  replace W5 := Aside0.mk (AR.below W5.out hb)
  replace BK3 := Aside0.mk (blk_below BK3.out hb)
  replace BK5 := Aside0.mk (blk_below BK5.out hb)
  replace G := Aside0.mk (SG.below G.out hb)
  replace HB := Aside0.mk (below_step HB.out hb)
  clear hz_BK5_0 hz_BK5_1 hz_BK5_2 hz_BK5_3 hz_BK5_4 hz_BK5_5
  replace ZZ := Aside0.mk (And.intro ZZ.out (show w14_.heap.size ≤ w15_.heap.size from hb.size))
  clear hb
  go_wp2_with (first | (go_at_call 8; refine hold_here ?_))
  refine hold_go ?_
  refine (laws_toByteS.calls _ A0 c0 l0 l0 _ ?s1 ?s2 H_t0.out).mono ?_
  case s1 => exact Kd.C_below HR0.out HB.out
  case s2 => exact HC0.out
  rintro e w16_ ⟨v, rfl, ho, hb⟩
  replace W2 := Aside0.mk (AR.below W2.out hb)
  replace W5 := Aside0.mk (AR.below W5.out hb)
  replace BK3 := Aside0.mk (blk_below BK3.out hb)
  replace BK5 := Aside0.mk (blk_below BK5.out hb)
  replace G := Aside0.mk (SG.below G.out hb)
  replace HB := Aside0.mk (below_step HB.out hb)
  replace ZZ := Aside0.mk (And.intro ZZ.out (show w15_.heap.size ≤ w16_.heap.size from hb.size))
  obtain ⟨A_T0, c_T0, ev_, hA_T0⟩ := B_of_R (base := w.heap.size) ho (show w.heap.size ≤ w15_.heap.size from (by have h_ := ZZ.out; omega))
  subst ev_
  have T0 := Aside0.mk (show Kd.R (Kd.int .u8) 5 w16_ w.heap.size (In w15_.heap.size w16_.heap.size) (.slice A_T0 l0.length c_T0) l0 from hA_T0)
  clear hA_T0 ho
  clear hb
  go_wp2_with (first | (go_at_call 25; refine hold_here ?_))
  refine hold_go ?_
  refine (H_impl.out A_T0 c_T0 _ ?s1 ?s2).mono ?_
  case s1 => exact (Kd.R_reads' T0.out).2.2
  case s2 => exact (Kd.R_reads' T0.out).2.1
  rintro e w17_ ⟨A_H2, c_H2, A_H5, c_H5, rfl, hc_2, hc_5, ha, hb⟩
  replace W2 := Aside0.mk (AR.below W2.out hb)
  replace W5 := Aside0.mk (AR.below W5.out hb)
  replace BK3 := Aside0.mk (blk_below BK3.out hb)
  replace BK5 := Aside0.mk (blk_below BK5.out hb)
  replace G := Aside0.mk (SG.below G.out hb)
  replace T0 := Aside0.mk (Kd.R_below T0.out hb)
  replace HB := Aside0.mk (below_step HB.out hb)
  replace ZZ := Aside0.mk (And.intro ZZ.out (show w16_.heap.size ≤ w17_.heap.size from hb.size))
  have HC_H2 := Aside0.mk hc_2
  have HC_H5 := Aside0.mk hc_5
  have H := Aside0.mk (show SG w.heap.size w17_ w16_.heap.size w17_.heap.size A_H2 rs2 A_H5 rs5 from SG.lower ha (by have h_ := ZZ.out; omega))
  clear ha hc_2 hc_5
  clear hb
  go_wp2_with (first | ((with_reducible refine gate_dst (N := 9) rfl ?_); refine hold_here ?_))
  refine hold_go ?_
  refine box_event (N := 9) (cs := #[.int .i64 0, .int .i64 0, .slice none 0 0, .int .i64 0, .int .i64 0, .slice none 0 0]) (t := 29) ?hgb rfl ?hrb ?_
  case hgb => rfl
  case hrb => first | (go_simp; done) | (go_simp; rfl)
  intro g9_ hg w18_ hbox hb
  replace W2 := Aside0.mk (AR.below W2.out hb)
  replace W5 := Aside0.mk (AR.below W5.out hb)
  replace BK3 := Aside0.mk (blk_below BK3.out hb)
  replace BK5 := Aside0.mk (blk_below BK5.out hb)
  replace G := Aside0.mk (SG.below G.out hb)
  replace T0 := Aside0.mk (Kd.R_below T0.out hb)
  replace H := Aside0.mk (SG.below H.out hb)
  replace HB := Aside0.mk (below_step HB.out hb)
  replace ZZ := Aside0.mk (And.intro ZZ.out (show w17_.heap.size ≤ w18_.heap.size from hb.size))
  have BK9 := Aside0.mk hbox
  replace ZZ := Aside0.mk (And.intro ZZ.out (And.intro (show g9_ = w17_.heap.size from hg) (show g9_ < w18_.heap.size from blk_lt hbox)))
  clear hb hbox hg
  go_wp2_with (first | ((with_reducible refine gate_store (t := 29) (p := 9) (v := .tmp 53) rfl ?_); refine hold_here ?_))
  refine hold_go ?_
  refine row_store rfl 29 (.tmp 9) (.tmp 53) rfl g9_ #[.int .i64 q0, .int .i64 q1, .slice A_H2 rs2.length c_H2, .int .i64 q3, .int .i64 q4, .slice A_H5 rs5.length c_H5] rfl ?hy 29 _ BK9.out ?hi ?ho ?h1 rfl HB.out (show w.heap.size ≤ g9_ from (by have h_ := ZZ.out; omega)) ?_
  case hy => rfl
  case hi => kernel_rfl
  case ho => rfl
  case h1 => first | rfl | (simp [Value.oneCell']; done) | (go_simp; done)
  intro w19_ bo hk hb2
  clear BK9
  replace W2 := Aside0.mk (AR.kept W2.out hk (by have h_ := ZZ.out; omega))
  replace W5 := Aside0.mk (AR.kept W5.out hk (by have h_ := ZZ.out; omega))
  replace BK3 := Aside0.mk (blk_keptIn BK3.out hk (by have h_ := ZZ.out; omega))
  replace BK5 := Aside0.mk (blk_keptIn BK5.out hk (by have h_ := ZZ.out; omega))
  replace G := Aside0.mk (SG.kept G.out hk (by have h_ := ZZ.out; omega))
  replace T0 := Aside0.mk (B_kept T0.out hk (by have h_ := ZZ.out; omega))
  replace H := Aside0.mk (SG.kept H.out hk (by have h_ := ZZ.out; omega))
  replace HB := Aside0.mk hb2
  replace ZZ := Aside0.mk (And.intro ZZ.out (show w18_.heap.size ≤ w19_.heap.size from hk.1))
  have BK9 := Aside0.mk bo
  clear bo hk hb2
  have hz_BK9_0 : w19_.cell? ⟨g9_, 0, none⟩ = some (.int .i64 q0) := (blk_cell BK9.out 0).trans rfl
  have hz_BK9_1 : w19_.cell? ⟨g9_, 1, none⟩ = some (.int .i64 q1) := (blk_cell BK9.out 1).trans rfl
  have hz_BK9_2 : w19_.cell? ⟨g9_, 2, none⟩ = some (.slice A_H2 rs2.length c_H2) := (blk_cell BK9.out 2).trans rfl
  have hz_BK9_3 : w19_.cell? ⟨g9_, 3, none⟩ = some (.int .i64 q3) := (blk_cell BK9.out 3).trans rfl
  have hz_BK9_4 : w19_.cell? ⟨g9_, 4, none⟩ = some (.int .i64 q4) := (blk_cell BK9.out 4).trans rfl
  have hz_BK9_5 : w19_.cell? ⟨g9_, 5, none⟩ = some (.slice A_H5 rs5.length c_H5) := (blk_cell BK9.out 5).trans rfl
  have hz_BK3_0 : w19_.cell? ⟨g3_, 0, none⟩ = some (.int .i64 q0) := (blk_cell BK3.out 0).trans rfl
  have hz_BK3_1 : w19_.cell? ⟨g3_, 1, none⟩ = some (.int .i64 q1) := (blk_cell BK3.out 1).trans rfl
  have hz_BK3_2 : w19_.cell? ⟨g3_, 2, none⟩ = some (.slice A_W2 rs2.length c_W2) := (blk_cell BK3.out 2).trans rfl
  have hz_BK3_3 : w19_.cell? ⟨g3_, 3, none⟩ = some (.int .i64 q3) := (blk_cell BK3.out 3).trans rfl
  have hz_BK3_4 : w19_.cell? ⟨g3_, 4, none⟩ = some (.int .i64 q4) := (blk_cell BK3.out 4).trans rfl
  have hz_BK3_5 : w19_.cell? ⟨g3_, 5, none⟩ = some (.slice A_W5 rs5.length c_W5) := (blk_cell BK3.out 5).trans rfl
  go_wp2_with (first | (go_at_call 10; refine hold_here ?_))
  refine hold_go ?_
  refine (laws_eqSignResult.calls _ q0 q1 A_H2 c_H2 rs2 q3 q4 A_H5 c_H5 rs5 q0 q1 A_W2 c_W2 rs2 q3 q4 A_W5 c_W5 rs5 true _ ?s1 ?s2 ?s3 ?s4 ?s5 ?s6 ?s7 ?s8 H_eqr.out).mono ?_
  case s1 => exact Kd.F_now (AR.foot (SG.ar1 H.out))
  case s2 => exact HC_H2.out
  case s3 => exact Kd.F_now (AR.foot (SG.ar2 H.out))
  case s4 => exact HC_H5.out
  case s5 => exact Kd.F_now (AR.foot W2.out)
  case s6 => exact HC_W2.out
  case s7 => exact Kd.F_now (AR.foot W5.out)
  case s8 => exact HC_W5.out
  rintro e w20_ ⟨rfl, hb⟩
  replace W2 := Aside0.mk (AR.below W2.out hb)
  replace W5 := Aside0.mk (AR.below W5.out hb)
  replace BK3 := Aside0.mk (blk_below BK3.out hb)
  replace BK5 := Aside0.mk (blk_below BK5.out hb)
  replace G := Aside0.mk (SG.below G.out hb)
  replace T0 := Aside0.mk (Kd.R_below T0.out hb)
  replace H := Aside0.mk (SG.below H.out hb)
  replace BK9 := Aside0.mk (blk_below BK9.out hb)
  replace HB := Aside0.mk (below_step HB.out hb)
  clear hz_BK9_0 hz_BK9_1 hz_BK9_2 hz_BK9_3 hz_BK9_4 hz_BK9_5 hz_BK3_0 hz_BK3_1 hz_BK3_2 hz_BK3_3 hz_BK3_4 hz_BK3_5
  replace ZZ := Aside0.mk (And.intro ZZ.out (show w19_.heap.size ≤ w20_.heap.size from hb.size))
  clear hb
  have hz_BK5_0 : w20_.cell? ⟨g5_, 0, none⟩ = some (.int .i64 q0) := (blk_cell BK5.out 0).trans rfl
  have hz_BK5_1 : w20_.cell? ⟨g5_, 1, none⟩ = some (.int .i64 q1) := (blk_cell BK5.out 1).trans rfl
  have hz_BK5_2 : w20_.cell? ⟨g5_, 2, none⟩ = some (.slice A_G2 rs2.length c_G2) := (blk_cell BK5.out 2).trans rfl
  have hz_BK5_3 : w20_.cell? ⟨g5_, 3, none⟩ = some (.int .i64 q3) := (blk_cell BK5.out 3).trans rfl
  have hz_BK5_4 : w20_.cell? ⟨g5_, 4, none⟩ = some (.int .i64 q4) := (blk_cell BK5.out 4).trans rfl
  have hz_BK5_5 : w20_.cell? ⟨g5_, 5, none⟩ = some (.slice A_G5 rs5.length c_G5) := (blk_cell BK5.out 5).trans rfl
  go_wp2_with (first | (go_at_call 14; refine hold_here ?_))
  refine hold_go ?_
  refine (heldSignResult_len _ q0 q1 q3 q4 A_G2 c_G2 A_G5 c_G5 mr1 rs2.length H_r1.out mr2 rs5.length H_r2.out 1 _ _ ?s1 ?s2 ?s3 ?s4 H_hr.out).mono ?_
  case s1 => exact Kd.F_now (AR.foot (SG.ar1 G.out))
  case s2 => exact HC_G2.out
  case s3 => exact Kd.F_now (AR.foot (SG.ar2 G.out))
  case s4 => exact HC_G5.out
  rintro e w21_ ⟨rfl, hb⟩
  replace W2 := Aside0.mk (AR.below W2.out hb)
  replace W5 := Aside0.mk (AR.below W5.out hb)
  replace BK3 := Aside0.mk (blk_below BK3.out hb)
  replace BK5 := Aside0.mk (blk_below BK5.out hb)
  replace G := Aside0.mk (SG.below G.out hb)
  replace T0 := Aside0.mk (Kd.R_below T0.out hb)
  replace H := Aside0.mk (SG.below H.out hb)
  replace BK9 := Aside0.mk (blk_below BK9.out hb)
  replace HB := Aside0.mk (below_step HB.out hb)
  clear hz_BK5_0 hz_BK5_1 hz_BK5_2 hz_BK5_3 hz_BK5_4 hz_BK5_5
  replace ZZ := Aside0.mk (And.intro ZZ.out (show w20_.heap.size ≤ w21_.heap.size from hb.size))
  clear hb
  go_wp2
  go_ret
  exact ⟨rfl, HB.out⟩
theorem law_UnpackSign_big0 (A0 : Option Addr) (c0 : Nat) (l0 : List Int) (w : World)  (hlen0 : ¬ l0.length ≤ 1048576) :
    Calls Try.prog 5 #[.slice A0 l0.length c0] w fun e w' => e = .returned (.bool true) ∧ Below w.heap.size w w' := by
  have cg0_ : decide ((l0.length : Int) > 1048576) = true := decide_eq_true (by omega)
  have ch0_ : decide ((1048576 : Int) < (l0.length : Int)) = true := decide_eq_true (by omega)
  clear hlen0
  go_enter Try.func5, Try.ntmps5
  go_wp2
  go_ret
  exact ⟨rfl, Below.refl _ _⟩

end Go.Proofs.Ytchmaojmknfbpaa.S

/- DIRECT: the law FnExactUnpackSign returns true at every argument: the program's UnpackSign and the reference's answer alike, in new memory. No condition. -/
set_option linter.unusedVariables false
namespace Go.Proofs.Ytchmaojmknfbpaa.Pure
open Go Go.RowKit Go.Proofs.Ytchmaojmknfbpaa.S Go.Proofs.YtchmaojmknfbpaaW.PrintWords Go.Proofs.YtchmaojmknfbpaaW.PrintLast Go.Proofs.YtchmaojmknfbpaaW.PrintMore Go.Proofs.Ytchmaojmknfbpaa.Base

theorem FnExactUnpackSign (l0 : List Int) (hl : l0.length ≤ 9223372036854775807) (hw : ∀ y ∈ l0, (Lit.int .u8 y).wf = true) (A0 : Option Addr) (c0 : Nat) (w : World) (hr0 : Kd.C (Kd.int .u8) w A0 l0.length l0) (hc0 : l0.length ≤ c0) :
    Calls Try.prog 5 #[.slice A0 l0.length c0] w fun e w' => e = .returned (.bool true) ∧ Below w.heap.size w w' := by
  by_cases hlen : l0.length ≤ 1048576
  · have hy := byt_of_wf hw
    obtain ⟨q0, q1, rs2, q3, q4, rs5, ⟨g1, g3, g2, g4⟩, hi, hs⟩ := us_ex hy
    have f2 := flat_small g1 g2
    have f5 := flat_small g3 g4
    have m2 : ∀ l ∈ rs2, l.length ≤ 281474976710656 := fun l hm => by have := g2 l hm; omega
    have m5 : ∀ l ∈ rs5, l.length ≤ 281474976710656 := fun l hm => by have := g4 l hm; omega
    obtain ⟨kt0, ht0⟩ := (toByteS_ev l0 (by omega)).rounds
    obtain ⟨ke0, he0⟩ := (eqByteS_ev l0 (by omega)).rounds
    obtain ⟨km0, hm0⟩ := (markByteS_ev l0 1 (by omega) (by omega)).rounds
    obtain ⟨kr, hr⟩ := (show Ev (fun k => laws_eqSignResult.f k q0 q1 rs2 q3 q4 rs5 q0 q1 rs2 q3 q4 rs5) true from by
      unfold laws_eqSignResult.f laws_eqSignature.f laws_eqProof.f
      exact ev_pos rfl (ev_bind (ev_pos rfl (ev_bind (eqByteSS_ev rs2 (by omega) m2) (ev_pos rfl (ev_bind (ev_pos rfl (ev_pos rfl (ev_bind (eqByteSS_ev rs5 (by omega) m5) (ev_pos rfl (ev_now rfl))))) (ev_pos rfl (ev_now rfl)))))) (ev_pos rfl (ev_now rfl)))).rounds
    obtain ⟨kh, hh⟩ := (show Ev (fun k => laws_heldSignResult.f k q0 q1 (markAll 1 rs2) q3 q4 (markAll (1 + (rs2.flatten.length : Int)) rs5) 1) (1 + (rs2.flatten.length : Int) + (rs5.flatten.length : Int)) from by
      unfold laws_heldSignResult.f laws_heldSignature.f laws_heldProof.f
      exact ev_bind (ev_bind (heldSS_ev rs2 1 (by omega) (by omega) (by omega)) (ev_neg (by omega) (ev_bind (ev_bind (heldSS_ev rs5 (1 + (rs2.flatten.length : Int)) (by omega) (by omega) (by omega)) (ev_neg (by omega) (ev_now rfl))) (ev_neg (by omega) (ev_now rfl))))) (ev_neg (by omega) (ev_now rfl))).rounds
    refine law_UnpackSign A0 c0 l0 q0 q1 rs2 q3 q4 rs5 (marked 1 l0.length) rs2.flatten.length rs5.flatten.length (markAll 1 rs2) (markAll (1 + (rs2.flatten.length : Int)) rs5) w hr0 hc0 hlen ke0 kr kh km0 kt0 ht0 he0 ?_ hi hr hm0 rfl (by omega) rfl (by omega) (by omega) rfl rfl (markAll_length rs2 _) (markAll_length rs5 _) hh
    intro B0 d0 W h0 e0
    refine (hs B0 d0 W h0 e0).mono fun e w' h => ?_
    obtain ⟨A1, c1, A2, c2, he, k1, k2, g, hb⟩ := h
    exact ⟨A1, c1, A2, c2, he, k1, k2, SG.ar1 g, SG.ar2 g, hb⟩
  · exact law_UnpackSign_big0 A0 c0 l0 w hlen
end Go.Proofs.Ytchmaojmknfbpaa.Pure
