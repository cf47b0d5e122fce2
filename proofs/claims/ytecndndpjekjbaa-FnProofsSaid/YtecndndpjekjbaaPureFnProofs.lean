import Derived.Test.YtecndndpjekjbaaShaI
import Derived.Test.YtecndndpjekjbaaPStr
import Derived.Test.YtecndndpjekjbaaSxImplTaggedY
import Derived.Test.YtecndndpjekjbaaSxImplDigestY
import Derived.Test.YtecndndpjekjbaaBase
import Derived.Test.YtecndndpjekjbaaSxImplTree
import Derived.Test.YtecndndpjekjbaaSxImplTree
import Derived.Test.YtecndndpjekjbaaSx0
import Derived.Test.YtecndndpjekjbaaSxImplAreLeavesY
import Derived.Test.YtecndndpjekjbaaSxImplSmall
import Derived.Test.YtecndndpjekjbaaSxImplPathOfY
import Derived.Test.YtecndndpjekjbaaSxImplProveLeafY
import Derived.Test.YtecndndpjekjbaaSxImplProveLeaf
import Derived.Test.YtecndndpjekjbaaSxImplIsProofY
import Derived.Test.YtecndndpjekjbaaSxImplPathLength
import Derived.Test.YtecndndpjekjbaaSxImplAreDigestsY
import Derived.Test.YtecndndpjekjbaaSxBytesEqual
import Derived.Lib.Bytes
import Derived.Test.YtecndndpjekjbaaSxImplCheckProof
import Derived.Test.YtecndndpjekjbaaSxImplRootOf
import Derived.Test.YtecndndpjekjbaaSxImplPackedY
import Derived.Test.YtecndndpjekjbaaSxImplPackY
import Derived.Test.YtecndndpjekjbaaSxImplPackProofY
import Derived.Test.YtecndndpjekjbaaSxImplPackProof
import Derived.Test.YtecndndpjekjbaaSxImplUnpackWords
import Derived.Test.YtecndndpjekjbaaSxBytesClone
import Derived.Test.YtecndndpjekjbaaSxSpecL1D
import Derived.Test.YtecndndpjekjbaaSxSpecDrawProveLeaf
import Derived.Test.YtecndndpjekjbaaSxSpecL3LeavesY
import Derived.Test.YtecndndpjekjbaaSxSpecL1D
import Derived.Test.YtecndndpjekjbaaSxSpecL1
import Derived.Test.YtecndndpjekjbaaSxSpecL3ManyY
import Derived.Test.YtecndndpjekjbaaSxSpecL1
import Derived.WalkSpells
import Derived.Laws.Tables
import Derived.Laws.CopyOwn
import Derived.Test.YtecndndpjekjbaaSxImplUnpackWords
import Derived.Test.YtecndndpjekjbaaSxImplIsProofY
import Derived.Test.YtecndndpjekjbaaSxLawsHelpW
import Derived.Test.YtecndndpjekjbaaSxSpecDrawProveLeaf
import Derived.Test.YtecndndpjekjbaaSxImplProveLeaf
import Derived.Test.YtecndndpjekjbaaSxSpecL3ManyY
import Derived.Test.YtecndndpjekjbaaSxSpecL1
import Derived.Test.YtecndndpjekjbaaSxImplRootOf
import Derived.Test.YtecndndpjekjbaaSxImplPackProof
import Derived.Test.YtecndndpjekjbaaSxImplPathLength
import Derived.Test.YtecndndpjekjbaaSxImplCheckProof
/- The digest and the tagged digest, as plain functions: what the program's and the reference's come to. For all bytes that fit. -/
set_option linter.unusedVariables false
namespace Go.Proofs.Ytecndndpjekjbaa.S
open Go.RowKit Go.Proofs.YtecndndpjekjbaaW.PrintWords Go.Proofs.YtecndndpjekjbaaW.PrintLast Go.Proofs.YtecndndpjekjbaaW.PrintMore Go.Proofs.Ytecndndpjekjbaa.Base Go.Proofs.Ytecndndpjekjbaa.Sha

theorem impl_dig {ls : List (List Int)} (hl : Byt ls.flatten) (hn : ls.flatten.length < 70000000000000) : impl_digest.f ls = some (sha ls.flatten) := by
  unfold impl_digest.f
  refine if_pos ?_
  unfold impl_digest.ok
  rw [Bool.and_eq_true]
  exact ⟨List.all_eq_true.2 (fun x hx => decide_eq_true (hl x hx)), decide_eq_true hn⟩
/-- The tagged digest. -/
def tg (t : ByteArray) (l : List Int) : List Int := sha ([(t.size : Int) % 256] ++ bytesOf t ++ l)
theorem tg_length (t : ByteArray) (l : List Int) : (tg t l).length = 32 := sha_length _
theorem tg_byt (t : ByteArray) (l : List Int) : Byt (tg t l) := sha_byt _
theorem tg_byt0 {t : ByteArray} {l : List Int} (hl : Byt l) : Byt ([(t.size : Int) % 256] ++ bytesOf t ++ l) :=
  byt_append (byt_append (byt_one (by omega) (by omega)) (bytesOf_byt t)) hl
theorem impl_tag {t : ByteArray} {ls : List (List Int)} (hl : Byt ls.flatten) (hn : t.size + ls.flatten.length < 60000000000000) (hc : ls.length < 5000000000000) : impl_tagged.f t ls = some (tg t ls.flatten) := by
  unfold impl_tagged.f
  rw [if_pos (by omega)]
  have e : ([[(t.size : Int) % 256], bytesOf t] ++ ls).flatten = [(t.size : Int) % 256] ++ bytesOf t ++ ls.flatten := by simp
  rw [impl_dig (by rw [e]; exact tg_byt0 hl) (by rw [e, List.length_append, List.length_append, bytesOf_length, List.length_singleton]; omega), e]
  rfl
theorem impl_tag1 {t : ByteArray} {l : List Int} (hl : Byt l) (hn : t.size + l.length < 60000000000000) : impl_tagged.f t [l] = some (tg t l) := by
  have e : [l].flatten = l := by simp
  have h := impl_tag (t := t) (ls := [l]) (by rw [e]; exact hl) (by rw [e]; exact hn) (by simp)
  rw [e] at h
  exact h
theorem impl_tag2 {t : ByteArray} {l m : List Int} (hl : Byt l) (hm : Byt m) (hn : t.size + l.length + m.length < 60000000000000) : impl_tagged.f t [l, m] = some (tg t (l ++ m)) := by
  have e : [l, m].flatten = l ++ m := by simp
  have h := impl_tag (t := t) (ls := [l, m]) (by rw [e]; exact byt_append hl hm) (by rw [e, List.length_append]; omega) (by simp)
  rw [e] at h
  exact h
end Go.Proofs.Ytecndndpjekjbaa.S

/- How a tree is split, and on which side the other parts are: the program's splitAt and sides and the reference's l3Split and l3Sides agree for 1 to 16 leaves. -/
set_option linter.unusedVariables false
namespace Go.Proofs.Ytecndndpjekjbaa.S
open Go.RowKit Go.Proofs.YtecndndpjekjbaaW.PrintWords Go.Proofs.YtecndndpjekjbaaW.PrintLast Go.Proofs.YtecndndpjekjbaaW.PrintMore Go.Proofs.Ytecndndpjekjbaa.Base

def splitV (n : Int) : Int := if n ≤ 2 then 1 else if n ≤ 4 then 2 else if n ≤ 8 then 4 else 8
theorem splitV_range {n : Int} (h : 2 ≤ n) (h1 : n ≤ 16) : 1 ≤ splitV n ∧ splitV n < n ∧ splitV n ≤ 8 ∧ n - splitV n ≤ 8 := by
  unfold splitV
  repeat' split
  all_goals omega
theorem wd (x : Int) (h0 : 0 ≤ x) (h1 : x ≤ 16) : wrap64 (2 * x) = 2 * x := w64 (by omega) (by omega)
theorem wd' (x : Int) (h0 : 0 ≤ x) (h1 : x ≤ 16) : wrap64 (x * 2) = 2 * x := by rw [w64 (by omega) (by omega)]; omega
theorem impl_split_ev {n : Int} (h : 2 ≤ n) (h1 : n ≤ 16) : Ev (fun k => impl_splitAt.f k n) (splitV n) := by
  unfold impl_splitAt.f splitV
  refine ev_step (fun k => impl_splitAt.l0.eq_2 _ _ _) ?_
  rw [wd 1 (by omega) (by omega), wd' 1 (by omega) (by omega)]
  by_cases c1 : n ≤ 2
  · rw [if_pos c1]; exact ev_neg (by omega) (ev_now rfl)
  rw [if_neg c1]; refine ev_pos (by omega) ?_
  refine ev_step (fun k => impl_splitAt.l0.eq_2 _ _ _) ?_
  rw [wd (2 * 1) (by omega) (by omega), wd' (2 * 1) (by omega) (by omega)]
  by_cases c2 : n ≤ 4
  · rw [if_pos c2]; exact ev_neg (by omega) (ev_now rfl)
  rw [if_neg c2]; refine ev_pos (by omega) ?_
  refine ev_step (fun k => impl_splitAt.l0.eq_2 _ _ _) ?_
  rw [wd (2 * (2 * 1)) (by omega) (by omega), wd' (2 * (2 * 1)) (by omega) (by omega)]
  by_cases c3 : n ≤ 8
  · rw [if_pos c3]; exact ev_neg (by omega) (ev_now rfl)
  rw [if_neg c3]; refine ev_pos (by omega) ?_
  refine ev_step (fun k => impl_splitAt.l0.eq_2 _ _ _) ?_
  rw [wd (2 * (2 * (2 * 1))) (by omega) (by omega)]
  exact ev_neg (by omega) (ev_now rfl)
theorem sides_evI : ∀ (m : Nat) (n p : Int), n ≤ m → 1 ≤ n → n ≤ 16 → 0 ≤ p → p < n → ∃ L : List Bool, (L.length : Int) < n ∧ Ev (fun k => impl_sides.f k n p) L := by
  intro m
  induction m with
  | zero => intro n p h h1; omega
  | succ m ih =>
    intro n p h h1 h2 hp hq
    by_cases e : n = 1
    · exact ⟨[], by simp; omega, ev_step (fun k => impl_sides.f.eq_2 _ _ _) (ev_pos e (ev_now rfl))⟩
    · have hr := splitV_range (n := n) (by omega) h2
      have hi := impl_split_ev (n := n) (by omega) h2
      generalize splitV n = v at hr hi
      by_cases c : p < v
      · obtain ⟨L, l1, l2⟩ := ih v p (by omega) (by omega) (by omega) hp c
        refine ⟨L ++ [false], by simp; omega, ev_step (fun k => impl_sides.f.eq_2 _ _ _) (ev_neg e (ev_bind hi (ev_pos c (ev_bind l2 (ev_pos ?_ (ev_now rfl))))))⟩
        omega
      · obtain ⟨L, l1, l2⟩ := ih (n - v) (p - v) (by omega) (by omega) (by omega) (by omega) (by omega)
        have e1 : wrap64 (n - v) = n - v := w64 (by omega) (by omega)
        have e2 : wrap64 (p - v) = p - v := w64 (by omega) (by omega)
        refine ⟨L ++ [true], by simp; omega, ev_step (fun k => impl_sides.f.eq_2 _ _ _) (ev_neg e (ev_bind hi (ev_neg c ?_)))⟩
        rw [e1, e2]
        exact ev_bind l2 (ev_pos (by omega) (ev_now rfl))
theorem sides_anyI (n p : Int) (h : (1 ≤ n ∧ n ≤ 16) ∧ (0 ≤ p ∧ p < n)) : ∃ L : List Bool, L.length ≤ 15 ∧ Ev (fun k => impl_sides.f k n p) L := by
  obtain ⟨L, h1, h2⟩ := sides_evI 16 n p h.1.2 h.1.1 h.1.2 h.2.1 h.2.2
  exact ⟨L, by have := h.1.2; omega, h2⟩
end Go.Proofs.Ytecndndpjekjbaa.S

/- The root of a tree of events: what the program's and the reference's come to. For up to 16 events of bytes that fit. -/
set_option linter.unusedVariables false
namespace Go.Proofs.Ytecndndpjekjbaa.S
open Go.RowKit Go.Proofs.YtecndndpjekjbaaW.PrintWords Go.Proofs.YtecndndpjekjbaaW.PrintLast Go.Proofs.YtecndndpjekjbaaW.PrintMore Go.Proofs.Ytecndndpjekjbaa.Base Go.Proofs.Ytecndndpjekjbaa.Sha

def leafV (l : List Int) : List Int := tg (⟨#[108, 101, 97, 102]⟩ : ByteArray) l
def nodeV (l m : List Int) : List Int := tg (⟨#[110, 111, 100, 101]⟩ : ByteArray) (l ++ m)
theorem impl_leaf_eq {l : List Int} (hl : Byt l) (hn : l.length ≤ 4294967296) : impl_LeafDigest.f l = some (leafV l) := by
  have h4 : (⟨#[108, 101, 97, 102]⟩ : ByteArray).size = 4 := rfl
  unfold impl_LeafDigest.f
  rw [impl_tag1 hl (by omega)]
  rfl
theorem impl_node_eq {l m : List Int} (hl : Byt l) (hm : Byt m) (hn : l.length ≤ 4294967296) (hn2 : m.length ≤ 4294967296) : impl_NodeDigest.f l m = some (nodeV l m) := by
  have h4 : (⟨#[110, 111, 100, 101]⟩ : ByteArray).size = 4 := rfl
  unfold impl_NodeDigest.f
  rw [impl_tag2 hl hm (by omega)]
  rfl
/-- How many of n leaves are on the left. -/
def cutV (n : Nat) : Nat := (splitV (n : Int)).toNat
theorem cutV_cast {n : Nat} (h : 2 ≤ n) (h1 : n ≤ 16) : ((cutV n : Nat) : Int) = splitV (n : Int) := by
  have := splitV_range (n := (n : Int)) (by omega) (by omega)
  unfold cutV
  omega
theorem cutV_range {n : Nat} (h : 2 ≤ n) (h1 : n ≤ 16) : 1 ≤ cutV n ∧ cutV n < n := by
  have := splitV_range (n := (n : Int)) (by omega) (by omega)
  have := cutV_cast h h1
  omega
def rootV : Nat → List (List Int) → List Int
  | 0, _ => []
  | m + 1, ls => if ls.length = 0 then tg (⟨#[110, 111, 110, 101]⟩ : ByteArray) [] else if ls.length = 1 then leafV (ls.getD 0 []) else nodeV (rootV m (ls.take (cutV ls.length))) (rootV m (ls.drop (cutV ls.length)))
/-- Leaves that fit. -/
def Leaves (ls : List (List Int)) : Prop := ls.length ≤ 16 ∧ ∀ l ∈ ls, Byt l ∧ l.length ≤ 4294967296
theorem Leaves.take {ls : List (List Int)} (h : Leaves ls) (n : Nat) : Leaves (ls.take n) := ⟨by have := h.1; rw [List.length_take]; omega, fun l hl => h.2 l (List.mem_of_mem_take hl)⟩
theorem Leaves.drop {ls : List (List Int)} (h : Leaves ls) (n : Nat) : Leaves (ls.drop n) := ⟨by have := h.1; rw [List.length_drop]; omega, fun l hl => h.2 l (List.mem_of_mem_drop hl)⟩
theorem rd_L_zero (ls : List (List Int)) : rd_L1 ls 0 = ls.getD 0 [] := rfl
theorem rootV_ok : ∀ (m : Nat) (ls : List (List Int)), ls.length ≤ m → Byt (rootV (m + 1) ls) ∧ (rootV (m + 1) ls).length = 32 := by
  intro m
  induction m with
  | zero =>
    intro ls h
    unfold rootV
    rw [if_pos (by omega)]
    exact ⟨tg_byt _ _, tg_length _ _⟩
  | succ m ih =>
    intro ls h
    unfold rootV
    split
    · exact ⟨tg_byt _ _, tg_length _ _⟩
    · split
      · exact ⟨tg_byt _ _, tg_length _ _⟩
      · exact ⟨tg_byt _ _, tg_length _ _⟩
theorem root_evI : ∀ (m : Nat) (ls : List (List Int)), ls.length ≤ m → Leaves ls → Ev (fun k => impl_rootOf.f k ls) (rootV (m + 1) ls) := by
  intro m
  have h4 : (⟨#[110, 111, 110, 101]⟩ : ByteArray).size = 4 := rfl
  induction m with
  | zero =>
    intro ls h hL
    unfold rootV
    rw [if_pos (by omega)]
    exact ev_step (fun k => impl_rootOf.f.eq_2 _ _) (ev_pos (by omega) (ev_bind (ev_now (impl_tag (ls := []) byt_nil (by simp only [List.flatten_nil, List.length_nil]; omega) (by simp))) (ev_now rfl)))
  | succ m ih =>
    intro ls h hL
    by_cases h0 : ls.length = 0
    · unfold rootV
      rw [if_pos h0]
      exact ev_step (fun k => impl_rootOf.f.eq_2 _ _) (ev_pos (by omega) (ev_bind (ev_now (impl_tag (ls := []) byt_nil (by simp only [List.flatten_nil, List.length_nil]; omega) (by simp))) (ev_now rfl)))
    by_cases h1 : ls.length = 1
    · have hm : ls.getD 0 [] ∈ ls := by
        rw [List.getD_eq_getElem?_getD, List.getElem?_eq_getElem (show 0 < ls.length by omega)]
        exact List.getElem_mem _
      obtain ⟨hy, hn⟩ := hL.2 _ hm
      unfold rootV
      rw [if_neg h0, if_pos h1]
      exact ev_step (fun k => impl_rootOf.f.eq_2 _ _) (ev_neg (by omega) (ev_pos (by omega) (ev_pos (by omega) (ev_bind (ev_now (impl_leaf_eq hy hn)) (ev_now rfl)))))
    · have hl := hL.1
      have hc := cutV_range (n := ls.length) (by omega) hl
      have hcc := cutV_cast (n := ls.length) (by omega) hl
      have hi := impl_split_ev (n := (ls.length : Int)) (by omega) (by omega)
      rw [← hcc] at hi
      unfold rootV
      rw [if_neg h0, if_neg h1]
      generalize cutV ls.length = v at *
      have t1 : (ls.take v).length ≤ m := by rw [List.length_take]; omega
      have t2 : (ls.drop v).length ≤ m := by rw [List.length_drop]; omega
      have a1 := ih (ls.take v) t1 (hL.take v)
      have b1 := ih (ls.drop v) t2 (hL.drop v)
      obtain ⟨c1, c2⟩ := rootV_ok m (ls.take v) t1
      obtain ⟨d1, d2⟩ := rootV_ok m (ls.drop v) t2
      refine ev_step (fun k => impl_rootOf.f.eq_2 _ _) (ev_neg (by omega) (ev_neg (by omega) (ev_bind hi (ev_pos (by omega) (ev_pos (by omega) ?_)))))
      rw [Int.toNat_natCast]
      exact ev_bind a1 (ev_bind b1 (ev_bind (ev_now (impl_node_eq c1 d1 (by omega) (by omega))) (ev_now rfl)))
def root (ls : List (List Int)) : List Int := rootV 17 ls
theorem impl_root_ev {ls : List (List Int)} (h : Leaves ls) : Ev (fun k => impl_rootOf.f k ls) (root ls) := root_evI 16 ls h.1 h
theorem root_byt {ls : List (List Int)} (h : ls.length ≤ 16) : Byt (root ls) := (rootV_ok 16 ls h).1
theorem root_length {ls : List (List Int)} (h : ls.length ≤ 16) : (root ls).length = 32 := (rootV_ok 16 ls h).2
end Go.Proofs.Ytecndndpjekjbaa.S

/- An element of rows of rows. -/
set_option linter.unusedVariables false
namespace Go.Proofs.Ytecndndpjekjbaa.S
open Go.RowKit Go.Proofs.YtecndndpjekjbaaW.PrintWords Go.Proofs.YtecndndpjekjbaaW.PrintLast Go.Proofs.YtecndndpjekjbaaW.PrintMore Go.Proofs.Ytecndndpjekjbaa.Base

theorem rdLL (ls : List (List Int)) (i : Nat) (h : i < ls.length) : rd_L1 ls (i : Int) = ls[i] := by
  unfold rd_L1
  simp [List.getD_eq_getElem?_getD, List.getElem?_eq_getElem h]
end Go.Proofs.Ytecndndpjekjbaa.S

/- Leaves that fit, and the tree's root and paths: what the program's and the reference's come to. For all leaves of bytes. -/
set_option linter.unusedVariables false
namespace Go.Proofs.Ytecndndpjekjbaa.S
open Go.RowKit Go.Proofs.YtecndndpjekjbaaW.PrintWords Go.Proofs.YtecndndpjekjbaaW.PrintLast Go.Proofs.YtecndndpjekjbaaW.PrintMore Go.Proofs.Ytecndndpjekjbaa.Base Go.Proofs.Ytecndndpjekjbaa.Sha

def Few (ls : List (List Int)) : Prop := ls.length ≤ 16 ∧ ∀ l ∈ ls, l.length ≤ 4000
instance (ls : List (List Int)) : Decidable (Few ls) := by unfold Few; infer_instance
theorem areLeaves_eq (ls : List (List Int)) : impl_areLeaves.f ls = some (decide (Few ls)) := by
  unfold impl_areLeaves.f
  congr 1
  rw [Bool.eq_iff_iff, decide_eq_true_iff, Bool.and_eq_true, decide_eq_true_iff, List.all_eq_true]
  constructor
  · rintro ⟨h1, h2⟩
    refine ⟨by omega, fun l hl => ?_⟩
    have := h2 l hl
    simp at this
    omega
  · rintro ⟨h1, h2⟩
    refine ⟨by omega, fun l hl => ?_⟩
    have := h2 l hl
    simp
    omega
theorem few_leaves {ls : List (List Int)} (h : Few ls) (hb : ∀ l ∈ ls, Byt l) : Leaves ls := ⟨h.1, fun l hl => ⟨hb l hl, by have := h.2 l hl; omega⟩⟩
end Go.Proofs.Ytecndndpjekjbaa.S

/- Is a number in its bounds: the program's and the reference's answer. -/
set_option linter.unusedVariables false
namespace Go.Proofs.Ytecndndpjekjbaa.S
open Go.RowKit Go.Proofs.YtecndndpjekjbaaW.PrintWords Go.Proofs.YtecndndpjekjbaaW.PrintLast Go.Proofs.YtecndndpjekjbaaW.PrintMore Go.Proofs.Ytecndndpjekjbaa.Base

theorem in_eq (a b c : Int) : impl_in.f a b c = some (decide (b ≤ a ∧ a ≤ c)) := by
  unfold impl_in.f
  by_cases h : b ≤ a <;> simp [h]
end Go.Proofs.Ytecndndpjekjbaa.S

/- Paths in a tree: the program's and the reference's come to the same. For up to 16 leaves that fit. -/
set_option linter.unusedVariables false
namespace Go.Proofs.Ytecndndpjekjbaa.S
open Go.RowKit Go.Proofs.YtecndndpjekjbaaW.PrintWords Go.Proofs.YtecndndpjekjbaaW.PrintLast Go.Proofs.YtecndndpjekjbaaW.PrintMore Go.Proofs.Ytecndndpjekjbaa.Base Go.Proofs.Ytecndndpjekjbaa.Sha

def pathV : Nat → List (List Int) → Int → List (List Int)
  | 0, _, _ => []
  | m + 1, ls, a => if ls.length = 1 then [] else if a < (cutV ls.length : Int) then pathV m (ls.take (cutV ls.length)) a ++ [root (ls.drop (cutV ls.length))] else pathV m (ls.drop (cutV ls.length)) (a - (cutV ls.length : Int)) ++ [root (ls.take (cutV ls.length))]
theorem pathV_ok : ∀ (m : Nat) (ls : List (List Int)) (a : Int), ls.length ≤ 16 → (pathV m ls a).length ≤ m ∧ ∀ l ∈ pathV m ls a, l.length = 32 := by
  intro m
  induction m with
  | zero => intro ls a h; exact ⟨Nat.le_refl _, fun l hl => (by cases hl)⟩
  | succ m ih =>
    intro ls a h
    have t1 : (ls.take (cutV ls.length)).length ≤ 16 := by rw [List.length_take]; omega
    have t2 : (ls.drop (cutV ls.length)).length ≤ 16 := by rw [List.length_drop]; omega
    have r1 := root_length t1
    have r2 := root_length t2
    unfold pathV
    generalize root (ls.take (cutV ls.length)) = q1 at *
    generalize root (ls.drop (cutV ls.length)) = q2 at *
    by_cases c1 : ls.length = 1
    · rw [if_pos c1]; exact ⟨Nat.zero_le _, fun l hl => (by cases hl)⟩
    rw [if_neg c1]
    by_cases c2 : a < (cutV ls.length : Int)
    · rw [if_pos c2]
      obtain ⟨i1, i2⟩ := ih (ls.take (cutV ls.length)) a t1
      refine ⟨by rw [List.length_append, List.length_singleton]; omega, fun l hl => ?_⟩
      rcases List.mem_append.1 hl with hl | hl
      · exact i2 l hl
      · rw [List.mem_singleton.1 hl]; exact r2
    · rw [if_neg c2]
      obtain ⟨i1, i2⟩ := ih (ls.drop (cutV ls.length)) (a - (cutV ls.length : Int)) t2
      refine ⟨by rw [List.length_append, List.length_singleton]; omega, fun l hl => ?_⟩
      rcases List.mem_append.1 hl with hl | hl
      · exact i2 l hl
      · rw [List.mem_singleton.1 hl]; exact r1
theorem path_evI : ∀ (m : Nat) (ls : List (List Int)) (a : Int), m ≤ 1000 → ls.length ≤ m → Leaves ls → 0 ≤ a → a < ls.length → Ev (fun k => impl_pathOf.f k ls a) (pathV m ls a) := by
  intro m
  induction m with
  | zero => intro ls a hm h hL h0 h1; omega
  | succ m ih =>
    intro ls a hm h hL h0 h1
    by_cases c1 : ls.length = 1
    · unfold pathV
      rw [if_pos c1]
      exact ev_step (fun k => impl_pathOf.f.eq_2 _ _ _) (ev_pos (by omega) (ev_now rfl))
    · have hl := hL.1
      have hc := cutV_range (n := ls.length) (by omega) hl
      have hcc := cutV_cast (n := ls.length) (by omega) hl
      have hi := impl_split_ev (n := (ls.length : Int)) (by omega) (by omega)
      rw [← hcc] at hi
      unfold pathV
      rw [if_neg c1]
      generalize cutV ls.length = v at *
      have t1 : (ls.take v).length = v := by rw [List.length_take]; omega
      have t2 : (ls.drop v).length = ls.length - v := by rw [List.length_drop]
      have i1 := impl_root_ev (hL.take v)
      have i2 := impl_root_ev (hL.drop v)
      by_cases c2 : a < (v : Int)
      · rw [if_pos c2]
        have p1 := ih (ls.take v) a (by omega) (by omega) (hL.take v) h0 (by omega)
        obtain ⟨o1, _⟩ := pathV_ok m (ls.take v) a (by omega)
        refine ev_step (fun k => impl_pathOf.f.eq_2 _ _ _) (ev_neg (by omega) (ev_bind hi (ev_pos c2 (ev_pos (by omega) (ev_pos (by omega) ?_)))))
        rw [Int.toNat_natCast]
        exact ev_bind p1 (ev_bind i2 (ev_pos (by omega) (ev_now rfl)))
      · rw [if_neg c2]
        have p1 := ih (ls.drop v) (a - (v : Int)) (by omega) (by omega) (hL.drop v) (by omega) (by omega)
        obtain ⟨o1, _⟩ := pathV_ok m (ls.drop v) (a - (v : Int)) (by omega)
        refine ev_step (fun k => impl_pathOf.f.eq_2 _ _ _) (ev_neg (by omega) (ev_bind hi (ev_neg c2 (ev_pos (by omega) (ev_pos (by omega) ?_)))))
        rw [Int.toNat_natCast, w64 (n := a - (v : Int)) (by omega) (by omega)]
        exact ev_bind p1 (ev_bind i1 (ev_pos (by omega) (ev_now rfl)))
def proveV (ls : List (List Int)) (a : Int) : Int × Int × Int × List (List Int) := if Few ls then (if 0 ≤ a ∧ a ≤ (ls.length : Int) - 1 then (0, a, (ls.length : Int), pathV 16 ls a) else (3, 0, 0, [])) else (2, 0, 0, [])
theorem proveV_ok (ls : List (List Int)) (a : Int) : (proveV ls a).2.2.2.length ≤ 16 ∧ ∀ l ∈ (proveV ls a).2.2.2, l.length = 32 := by
  unfold proveV
  by_cases c : Few ls
  · have h := pathV_ok 16 ls a c.1
    rw [if_pos c]
    by_cases d : 0 ≤ a ∧ a ≤ (ls.length : Int) - 1
    · rw [if_pos d]; exact h
    · rw [if_neg d]; exact ⟨Nat.zero_le _, fun l hl => (by cases hl)⟩
  · rw [if_neg c]; exact ⟨Nat.zero_le _, fun l hl => (by cases hl)⟩
theorem impl_ProveLeaf_ev {ls : List (List Int)} (hb : ∀ l ∈ ls, Byt l) (a : Int) : Ev (fun k => impl_ProveLeaf.f k ls a) (proveV ls a) := by
  unfold impl_ProveLeaf.f proveV
  refine ev_bind (ev_now (areLeaves_eq ls)) ?_
  by_cases c : Few ls
  · rw [if_pos c]
    have h16 := c.1
    refine ev_pos (decide_eq_true c) ?_
    rw [w64 (n := (ls.length : Int) - 1) (by omega) (by omega)]
    refine ev_bind (ev_now (in_eq _ _ _)) ?_
    by_cases d : 0 ≤ a ∧ a ≤ (ls.length : Int) - 1
    · rw [if_pos d]
      have hp := path_evI 16 ls a (by omega) c.1 (few_leaves c hb) d.1 (by omega)
      refine ev_pos (decide_eq_true d) (ev_bind (a := (a, (ls.length : Int), pathV 16 ls a)) ?_ (ev_now rfl))
      unfold impl_proveLeaf.f
      exact ev_bind hp (ev_now rfl)
    · rw [if_neg d]
      exact ev_neg (fun g => d (of_decide_eq_true g)) (ev_now rfl)
  · rw [if_neg c]
    exact ev_neg (fun g => c (of_decide_eq_true g)) (ev_now rfl)
end Go.Proofs.Ytecndndpjekjbaa.S

/- Proofs: when one has its form, and what it climbs to: what the program's and the reference's come to. For all that fit. -/
set_option linter.unusedVariables false
namespace Go.Proofs.Ytecndndpjekjbaa.S
open Go.RowKit Go.Proofs.YtecndndpjekjbaaW.PrintWords Go.Proofs.YtecndndpjekjbaaW.PrintLast Go.Proofs.YtecndndpjekjbaaW.PrintMore Go.Proofs.Ytecndndpjekjbaa.Base

/-- A place in a tree. -/
def Placed (n p : Int) : Prop := (1 ≤ n ∧ n ≤ 16) ∧ (0 ≤ p ∧ p < n)
instance (n p : Int) : Decidable (Placed n p) := by unfold Placed; infer_instance
theorem impl_pathLength_ev (n p : Int) (L : List Bool) (h : Placed n p → Ev (fun k => impl_sides.f k n p) L) : Ev (fun k => impl_PathLength.f k n p) (if Placed n p then (0, (L.length : Int)) else (3, 0)) := by
  unfold impl_PathLength.f
  refine ev_bind (ev_now (in_eq _ _ _)) ?_
  by_cases h1 : 1 ≤ n ∧ n ≤ 16
  · refine ev_pos (decide_eq_true h1) ?_
    rw [w64 (n := n - 1) (by omega) (by omega)]
    refine ev_bind (ev_now (in_eq _ _ _)) ?_
    by_cases h2 : 0 ≤ p ∧ p ≤ n - 1
    · have hp : Placed n p := ⟨h1, h2.1, by omega⟩
      rw [if_pos hp]
      exact ev_pos (decide_eq_true h2) (ev_bind (h hp) (ev_now rfl))
    · rw [if_neg (fun hp : Placed n p => h2 ⟨hp.2.1, by have := hp.2.2; omega⟩)]
      exact ev_neg (fun g => h2 (of_decide_eq_true g)) (ev_now rfl)
  · rw [if_neg (fun hp : Placed n p => h1 hp.1)]
    exact ev_neg (fun g => h1 (of_decide_eq_true g)) (ev_now rfl)
/-- All of 32 bytes. -/
def All32 (ls : List (List Int)) : Prop := ∀ l ∈ ls, l.length = 32
instance (ls : List (List Int)) : Decidable (All32 ls) := by unfold All32; infer_instance
theorem areDigests_eq (ls : List (List Int)) : impl_areDigests.f ls = some (decide (All32 ls)) := by
  unfold impl_areDigests.f
  congr 1
  rw [Bool.eq_iff_iff, List.all_eq_true, decide_eq_true_iff]
  unfold All32
  constructor
  · intro h l hl
    have := beq_iff_eq.1 (h l hl)
    omega
  · intro h l hl
    exact beq_iff_eq.2 (by have := h l hl; omega)
/-- A proof of the right form: its place, its length, its parts. -/
def Right (n p : Int) (L : List Bool) (ls : List (List Int)) : Prop := Placed n p ∧ ls.length = L.length ∧ All32 ls
instance (n p : Int) (L : List Bool) (ls : List (List Int)) : Decidable (Right n p L ls) := by unfold Right; infer_instance
theorem impl_isProof_ev (n p : Int) (L : List Bool) (h : Placed n p → Ev (fun k => impl_sides.f k n p) L) (ls : List (List Int)) : Ev (fun k => impl_isProof.f k p n ls) (decide (Right n p L ls)) := by
  unfold impl_isProof.f
  refine ev_bind (impl_pathLength_ev n p L h) ?_
  by_cases hp : Placed n p
  · rw [if_pos hp]
    refine ev_pos rfl ?_
    by_cases hl : ls.length = L.length
    · refine ev_pos (show (L.length : Int) = (ls.length : Int) by omega) (ev_bind (ev_now (areDigests_eq ls)) (ev_now ?_))
      congr 1
      rw [Bool.eq_iff_iff, decide_eq_true_iff, decide_eq_true_iff]
      exact ⟨fun g => ⟨hp, hl, g⟩, fun g => g.2.2⟩
    · exact ev_neg (show ¬ (L.length : Int) = (ls.length : Int) by omega) (ev_now (by rw [decide_eq_false (fun g : Right n p L ls => hl g.2.1)]))
  · rw [if_neg hp]
    exact ev_neg (show ¬ (3 : Int) = 0 by decide) (ev_now (by rw [decide_eq_false (fun g : Right n p L ls => hp g.1)]))
end Go.Proofs.Ytecndndpjekjbaa.S

/- bytes.Equal: whether two lists of bytes are the same. -/
set_option linter.unusedVariables false
namespace Go.Proofs.Ytecndndpjekjbaa.S
open Go.RowKit Go.Proofs.YtecndndpjekjbaaW.PrintWords Go.Proofs.YtecndndpjekjbaaW.PrintLast Go.Proofs.YtecndndpjekjbaaW.PrintMore Go.Proofs.Ytecndndpjekjbaa.Base
theorem equal_eq {a b : List Int} (ha : Byt a) (hb : Byt b) : bytes_Equal.f a b = some (decide (a = b)) := by
  unfold bytes_Equal.f
  congr 1
  rw [Lib.strOfNums_toList, Lib.strOfNums_toList, Bool.eq_iff_iff, beq_iff_eq, decide_eq_true_iff]
  constructor
  · intro h
    refine strOfNums_inj ha hb ?_
    have h2 := congrArg List.toArray h
    exact h2
  · intro h; rw [h]
end Go.Proofs.Ytecndndpjekjbaa.S

/- CheckProof: what the program's and the reference's come to. For all that fit. -/
set_option linter.unusedVariables false
namespace Go.Proofs.Ytecndndpjekjbaa.S
open Go.RowKit Go.Proofs.YtecndndpjekjbaaW.PrintWords Go.Proofs.YtecndndpjekjbaaW.PrintLast Go.Proofs.YtecndndpjekjbaaW.PrintMore Go.Proofs.Ytecndndpjekjbaa.Base Go.Proofs.Ytecndndpjekjbaa.Sha

/-- What a digest climbs to beside others. -/
def upV : List (Bool × List Int) → List Int → List Int
  | [], own => own
  | (b, p) :: r, own => upV r (if b = true then nodeV p own else nodeV own p)
theorem nodeV_byt (l m : List Int) : Byt (nodeV l m) := tg_byt _ _
theorem nodeV_length (l m : List Int) : (nodeV l m).length = 32 := tg_length _ _
theorem leafV_byt (l : List Int) : Byt (leafV l) := tg_byt _ _
theorem leafV_length (l : List Int) : (leafV l).length = 32 := tg_length _ _
theorem upV_ok : ∀ (r : List (Bool × List Int)) {own : List Int}, Byt own → own.length = 32 → Byt (upV r own) ∧ (upV r own).length = 32
  | [], _, h, hl => ⟨h, hl⟩
  | (b, p) :: r, own, h, hl => by
    unfold upV
    refine upV_ok r ?_ ?_
    · split <;> exact nodeV_byt _ _
    · split <;> exact nodeV_length _ _
theorem rdB (L : List Bool) (i : Nat) (h : i < L.length) : rdOf false L (i : Int) = L[i] := by
  unfold rdOf
  simp [List.getD_eq_getElem?_getD, List.getElem?_eq_getElem h]
theorem zip_drop (L : List Bool) (ls : List (List Int)) (i : Nat) (h : i < L.length) (hl : ls.length = L.length) : (L.zip ls).drop i = (L[i], ls[i]) :: (L.zip ls).drop (i + 1) := by
  rw [List.drop_eq_getElem_cons (by rw [List.length_zip]; omega), List.getElem_zip]
theorem check_l0 (root : List Int) (hr : Byt root) (L : List Bool) (ls : List (List Int)) (hlen : L.length ≤ 1000) (hl : ls.length = L.length) (hb : ∀ l ∈ ls, Byt l ∧ l.length = 32) (p n : Int) : ∀ (d i : Nat) (own : List Int), i + d = L.length → Byt own → own.length = 32 →
    Ev (fun k => impl_CheckProof.l0 k root own L (L.length : Int) (i : Int) p n ls) (decide (upV ((L.zip ls).drop i) own = root)) := by
  intro d
  induction d with
  | zero =>
    intro i own h ho hol
    rw [List.drop_of_length_le (by rw [List.length_zip]; omega)]
    exact ev_step (fun k => impl_CheckProof.l0.eq_2 _ _ _ _ _ _ _ _ _) (ev_neg (by omega) (ev_bind (ev_now (equal_eq ho hr)) (ev_now rfl)))
  | succ d ih =>
    intro i own h ho hol
    have hlt : i < L.length := by omega
    have hp := hb ls[i] (List.getElem_mem _)
    refine ev_step (fun k => impl_CheckProof.l0.eq_2 _ _ _ _ _ _ _ _ _) (ev_pos (by omega) (ev_pos (by omega) (ev_pos (by omega) ?_)))
    rw [rdB L i hlt, rdLL ls i (by omega), w64s (by omega), zip_drop L ls i hlt hl]
    unfold upV
    by_cases g : L[i] = true
    · rw [if_pos g]
      exact ev_pos g (ev_pos (by omega) (ev_bind (ev_now (impl_node_eq hp.1 ho (by omega) (by omega))) (ih (i + 1) _ (by omega) (nodeV_byt _ _) (nodeV_length _ _))))
    · rw [if_neg g]
      exact ev_neg g (ev_pos (by omega) (ev_bind (ev_now (impl_node_eq ho hp.1 (by omega) (by omega))) (ih (i + 1) _ (by omega) (nodeV_byt _ _) (nodeV_length _ _))))
def checkV (root data : List Int) (n p : Int) (L : List Bool) (ls : List (List Int)) : Bool := if Right n p L ls then decide (upV (L.zip ls) (leafV data) = root) else false
theorem right_mem {n p : Int} {L : List Bool} {ls : List (List Int)} (h : Right n p L ls) (hb : ∀ l ∈ ls, Byt l) : ∀ l ∈ ls, Byt l ∧ l.length = 32 := fun l hl => ⟨hb l hl, h.2.2 l hl⟩
theorem impl_CheckProof_ev {root data : List Int} (hr : Byt root) (hd : Byt data) (hdl : data.length ≤ 4294967296) (n p : Int) (L : List Bool) (hL : L.length ≤ 1000) (h : Placed n p → Ev (fun k => impl_sides.f k n p) L) (ls : List (List Int)) (hb : ∀ l ∈ ls, Byt l) : Ev (fun k => impl_CheckProof.f k root data p n ls) (checkV root data n p L ls) := by
  unfold impl_CheckProof.f checkV
  refine ev_bind (impl_isProof_ev n p L h ls) ?_
  by_cases g : Right n p L ls
  · rw [if_pos g]
    exact ev_pos (decide_eq_true g) (ev_bind (ev_now (impl_leaf_eq hd hdl)) (ev_bind (h g.1) (check_l0 root hr L ls hL g.2.1 (right_mem g hb) p n L.length 0 _ (by omega) (leafV_byt _) (leafV_length _))))
  · rw [if_neg g]
    exact ev_neg (fun e => g (of_decide_eq_true e)) (ev_now rfl)
end Go.Proofs.Ytecndndpjekjbaa.S

/- A path climbs to the root of its tree: for each leaf of up to 16 that fit. -/
set_option linter.unusedVariables false
namespace Go.Proofs.Ytecndndpjekjbaa.S
open Go.RowKit Go.Proofs.YtecndndpjekjbaaW.PrintWords Go.Proofs.YtecndndpjekjbaaW.PrintLast Go.Proofs.YtecndndpjekjbaaW.PrintMore Go.Proofs.Ytecndndpjekjbaa.Base Go.Proofs.Ytecndndpjekjbaa.Sha

theorem root_one {ls : List (List Int)} (h : ls.length = 1) : root ls = leafV (ls.getD 0 []) := by
  unfold root rootV
  rw [if_neg (by omega), if_pos h]
theorem root_node {ls : List (List Int)} (hL : Leaves ls) (h : 2 ≤ ls.length) : root ls = nodeV (root (ls.take (cutV ls.length))) (root (ls.drop (cutV ls.length))) := by
  have hc := cutV_range h hL.1
  have h16 := hL.1
  have t1 : (ls.take (cutV ls.length)).length ≤ 15 := by rw [List.length_take]; omega
  have t2 : (ls.drop (cutV ls.length)).length ≤ 15 := by rw [List.length_drop]; omega
  have e1 := ev_uniq (root_evI 15 _ t1 (hL.take _)) (impl_root_ev (hL.take (cutV ls.length)))
  have e2 := ev_uniq (root_evI 15 _ t2 (hL.drop _)) (impl_root_ev (hL.drop (cutV ls.length)))
  rw [← e1, ← e2]
  show rootV (16 + 1) ls = _
  rw [show rootV (16 + 1) ls = (if ls.length = 0 then tg (⟨#[110, 111, 110, 101]⟩ : ByteArray) [] else if ls.length = 1 then leafV (ls.getD 0 []) else nodeV (rootV 16 (ls.take (cutV ls.length))) (rootV 16 (ls.drop (cutV ls.length)))) from rfl, if_neg (by omega), if_neg (by omega)]
theorem upV_append : ∀ (r : List (Bool × List Int)) (b : Bool) (q own : List Int), upV (r ++ [(b, q)]) own = if b = true then nodeV q (upV r own) else nodeV (upV r own) q
  | [], b, q, own => rfl
  | (c, p) :: r, b, q, own => by
    show upV (r ++ [(b, q)]) _ = _
    rw [upV_append r b q]
    rfl
theorem path_climb : ∀ (m : Nat) (ls : List (List Int)) (a : Nat), m ≤ 1000 → ls.length ≤ m → Leaves ls → a < ls.length →
    ∃ L : List Bool, L.length < ls.length ∧ Ev (fun k => impl_sides.f k (ls.length : Int) (a : Int)) L ∧ (pathV m ls (a : Int)).length = L.length ∧ (∀ l ∈ pathV m ls (a : Int), Byt l ∧ l.length = 32) ∧ upV (L.zip (pathV m ls (a : Int))) (leafV (ls.getD a [])) = root ls := by
  intro m
  induction m with
  | zero => intro ls a h h1 hL h2; omega
  | succ m ih =>
    intro ls a h h1 hL h2
    have h16 := hL.1
    by_cases e : ls.length = 1
    · obtain rfl : a = 0 := by omega
      refine ⟨[], by simp; omega, ev_step (fun k => impl_sides.f.eq_2 _ _ _) (ev_pos (by omega) (ev_now rfl)), ?_, ?_, ?_⟩
      · unfold pathV; rw [if_pos e]; rfl
      · unfold pathV; rw [if_pos e]; intro l hl; cases hl
      · rw [root_one e]; rfl
    · have hr := cutV_range (n := ls.length) (by omega) h16
      have hcc := cutV_cast (n := ls.length) (by omega) h16
      have hi := impl_split_ev (n := (ls.length : Int)) (by omega) (by omega)
      rw [← hcc] at hi
      rw [root_node hL (by omega)]
      unfold pathV
      rw [if_neg e]
      have t16 : (ls.take (cutV ls.length)).length ≤ 16 := by rw [List.length_take]; omega
      have d16 : (ls.drop (cutV ls.length)).length ≤ 16 := by rw [List.length_drop]; omega
      have bt := root_byt t16
      have lt := root_length t16
      have bd := root_byt d16
      have ld := root_length d16
      generalize cutV ls.length = v at *
      by_cases c : a < v
      · rw [if_pos (show (a : Int) < (v : Int) by omega)]
        have tl : (ls.take v).length = v := by rw [List.length_take]; omega
        obtain ⟨L, l1, l2, l4, l5, l6⟩ := ih (ls.take v) a (by omega) (by omega) (hL.take v) (by omega)
        rw [tl] at l1 l2
        have eg : (ls.take v).getD a [] = ls.getD a [] := by
          rw [List.getD_eq_getElem?_getD, List.getD_eq_getElem?_getD, List.getElem?_take, if_pos c]
        rw [eg] at l6
        refine ⟨L ++ [false], by simp; omega, ?_, by simp [l4], ?_, ?_⟩
        · exact ev_step (fun k => impl_sides.f.eq_2 _ _ _) (ev_neg (by omega) (ev_bind hi (ev_pos (by omega) (ev_bind l2 (ev_pos (by omega) (ev_now rfl))))))
        · intro l hl
          rcases List.mem_append.1 hl with hl | hl
          · exact l5 l hl
          · rw [List.mem_singleton.1 hl]; exact ⟨bd, ld⟩
        · rw [List.zip_append l4.symm, show [false].zip [root (ls.drop v)] = [(false, root (ls.drop v))] from rfl, upV_append, if_neg (by decide), l6]
      · rw [if_neg (show ¬ (a : Int) < (v : Int) by omega), show (a : Int) - (v : Int) = ((a - v : Nat) : Int) by omega]
        have dl : (ls.drop v).length = ls.length - v := by rw [List.length_drop]
        obtain ⟨L, l1, l2, l4, l5, l6⟩ := ih (ls.drop v) (a - v) (by omega) (by omega) (hL.drop v) (by omega)
        rw [dl] at l1 l2
        have eg : (ls.drop v).getD (a - v) [] = ls.getD a [] := by
          rw [List.getD_eq_getElem?_getD, List.getD_eq_getElem?_getD, List.getElem?_drop, show v + (a - v) = a by omega]
        rw [eg] at l6
        have e1 : wrap64 ((ls.length : Int) - (v : Int)) = ((ls.length - v : Nat) : Int) := by rw [w64 (by omega) (by omega)]; omega
        have e2 : wrap64 ((a : Int) - (v : Int)) = ((a - v : Nat) : Int) := by rw [w64 (by omega) (by omega)]; omega
        refine ⟨L ++ [true], by simp; omega, ?_, by simp [l4], ?_, ?_⟩
        · refine ev_step (fun k => impl_sides.f.eq_2 _ _ _) (ev_neg (by omega) (ev_bind hi (ev_neg (by omega) ?_)))
          rw [e1, e2]
          exact ev_bind l2 (ev_pos (by omega) (ev_now rfl))
        · intro l hl
          rcases List.mem_append.1 hl with hl | hl
          · exact l5 l hl
          · rw [List.mem_singleton.1 hl]; exact ⟨bt, lt⟩
        · rw [List.zip_append l4.symm, show [true].zip [root (ls.take v)] = [(true, root (ls.take v))] from rfl, upV_append, if_pos rfl, l6]
end Go.Proofs.Ytecndndpjekjbaa.S

/- Roots: what the program's RootOf comes to. For leaves of bytes. -/
set_option linter.unusedVariables false
namespace Go.Proofs.Ytecndndpjekjbaa.S
open Go.RowKit Go.Proofs.YtecndndpjekjbaaW.PrintWords Go.Proofs.YtecndndpjekjbaaW.PrintLast Go.Proofs.YtecndndpjekjbaaW.PrintMore Go.Proofs.Ytecndndpjekjbaa.Base Go.Proofs.Ytecndndpjekjbaa.Sha
def rootOfV (ls : List (List Int)) : Int × List Int := if Few ls then (0, root ls) else (2, [])
theorem rootOfV_length (ls : List (List Int)) : (rootOfV ls).2.length ≤ 32 := by
  unfold rootOfV
  by_cases c : Few ls
  · have hr : (root ls).length = 32 := root_length (ls := ls) c.1
    rw [if_pos c]
    generalize root ls = q at *
    exact Nat.le_of_eq hr
  · rw [if_neg c]; exact Nat.zero_le _
theorem impl_RootOf_ev {ls : List (List Int)} (hb : ∀ l ∈ ls, Byt l) : Ev (fun k => impl_RootOf.f k ls) (rootOfV ls) := by
  unfold impl_RootOf.f rootOfV
  refine ev_bind (ev_now (areLeaves_eq ls)) ?_
  by_cases c : Few ls
  · rw [if_pos c]; exact ev_pos (decide_eq_true c) (ev_bind (impl_root_ev (few_leaves c hb)) (ev_now rfl))
  · rw [if_neg c]; exact ev_neg (fun g => c (of_decide_eq_true g)) (ev_now rfl)
end Go.Proofs.Ytecndndpjekjbaa.S

/- Words behind one another, each with its length ahead: what the program's packed and the reference's l1Pack come to. -/
set_option linter.unusedVariables false
namespace Go.Proofs.Ytecndndpjekjbaa.S
open Go.RowKit Go.Proofs.YtecndndpjekjbaaW.PrintWords Go.Proofs.YtecndndpjekjbaaW.PrintLast Go.Proofs.YtecndndpjekjbaaW.PrintMore Go.Proofs.Ytecndndpjekjbaa.Base

/-- Words behind one another, each with its length ahead. -/
def packL : List (List Int) → List Int
  | [] => []
  | w :: ws => (((w.length : Int) % 256) :: w) ++ packL ws
theorem packL_cons_length (w : List Int) (ws : List (List Int)) : (packL (w :: ws)).length = 1 + w.length + (packL ws).length := by
  simp [packL]
  omega
theorem rdW (l : List (List Int)) (i : Nat) (h : i < l.length) : rd_L1 l (i : Int) = l[i] := by
  unfold rd_L1
  simp [List.getD_eq_getElem?_getD, List.getElem?_eq_getElem h]
/-- The words that are packed, and whether they are few and short. -/
def packedV (ws : List (List Int)) : List Int × Bool := if ws.length > 60 then ([], false) else if (∀ w ∈ ws, w.length ≤ 200) ∧ (packL ws).length ≤ 4000 then (packL ws, true) else ([], false)
theorem packed_l0 (ws : List (List Int)) (hw : ws.length ≤ 60) (hs : ∀ w ∈ ws, w.length ≤ 9223372036854771000) : ∀ (d i : Nat) (y : List Int), i + d = ws.length → y.length ≤ 4000 → Ev (fun k => impl_packed.l0 k y ws (ws.length : Int) (i : Int)) (if (∀ w ∈ ws.drop i, w.length ≤ 200) ∧ y.length + (packL (ws.drop i)).length ≤ 4000 then (y ++ packL (ws.drop i), true) else ([], false)) := by
  intro d
  induction d with
  | zero =>
    intro i y hi hl
    rw [List.drop_of_length_le (by omega)]
    rw [if_pos ⟨fun w hw => (by cases hw), (by simpa [packL] using hl)⟩]
    exact ev_step (fun k => impl_packed.l0.eq_2 _ _ _ _ _) (ev_neg (by omega) (ev_now (by simp [packL])))
  | succ d ih =>
    intro i y hi hl
    rw [List.drop_eq_getElem_cons (by omega)]
    have hsi := hs ws[i] (List.getElem_mem _)
    refine ev_step (fun k => impl_packed.l0.eq_2 _ _ _ _ _) (ev_pos (by omega) (ev_pos (by omega) (ev_pos (by omega) ?_)))
    rw [rdW ws i (by omega), packL_cons_length]
    by_cases c : ws[i].length > 200
    · rw [if_neg (fun h => by have := h.1 ws[i] List.mem_cons_self; omega)]
      exact ev_pos (by omega) (ev_now rfl)
    · refine ev_neg (by omega) ?_
      rw [w64 (n := (y.length : Int) + 1) (by omega) (by omega), w64 (n := (y.length : Int) + 1 + (ws[i].length : Int)) (by omega) (by omega)]
      by_cases e : (y.length : Int) + 1 + (ws[i].length : Int) > 4000
      · rw [if_neg (fun h => by omega)]
        exact ev_pos e (ev_now rfl)
      · refine ev_neg e (ev_pos (by omega) (ev_bind (ev_now rfl) (ev_pos (by simp; omega) ?_)))
        rw [w64s (by omega)]
        refine ev_eq (ih (i + 1) _ (by omega) (by simp; omega)) ?_
        have hq : ((∀ w ∈ ws[i] :: ws.drop (i + 1), w.length ≤ 200) ∧ y.length + (1 + ws[i].length + (packL (ws.drop (i + 1))).length) ≤ 4000) ↔ ((∀ w ∈ ws.drop (i + 1), w.length ≤ 200) ∧ (y ++ [(ws[i].length : Int) % 256] ++ ws[i]).length + (packL (ws.drop (i + 1))).length ≤ 4000) := by
          have hlen : (y ++ [(ws[i].length : Int) % 256] ++ ws[i]).length = y.length + 1 + ws[i].length := by simp; omega
          rw [hlen]
          constructor
          · rintro ⟨h1, h2⟩
            exact ⟨fun w hw => h1 w (List.mem_cons_of_mem _ hw), by omega⟩
          · rintro ⟨h1, h2⟩
            refine ⟨fun w hw => ?_, by omega⟩
            rcases List.mem_cons.1 hw with rfl | hw
            · omega
            · exact h1 w hw
        by_cases g : (∀ w ∈ ws[i] :: ws.drop (i + 1), w.length ≤ 200) ∧ y.length + (1 + ws[i].length + (packL (ws.drop (i + 1))).length) ≤ 4000
        · rw [if_pos g, if_pos (hq.1 g)]
          simp [packL]
        · rw [if_neg g, if_neg (fun h => g (hq.2 h))]
theorem packed_ev (ws : List (List Int)) (hs : ∀ w ∈ ws, w.length ≤ 9223372036854771000) : Ev (fun k => impl_packed.f k ws) (packedV ws) := by
  unfold impl_packed.f packedV
  by_cases c : ws.length > 60
  · rw [if_pos c]; exact ev_pos (by omega) (ev_now rfl)
  · rw [if_neg c]
    have h := packed_l0 ws (by omega) hs ws.length 0 [] (by omega) (by simp)
    simp only [List.drop_zero, List.length_nil, Nat.zero_add, List.nil_append] at h
    exact ev_neg (by omega) h
theorem packL_len : ∀ {ws : List (List Int)} {m : Nat}, (∀ w ∈ ws, w.length ≤ m) → (packL ws).length ≤ ws.length * (m + 1)
  | [], m, _ => by simp [packL]
  | w :: ws, m, h => by
    rw [packL_cons_length, List.length_cons, Nat.succ_mul]
    have h1 := h w List.mem_cons_self
    have h2 := packL_len (ws := ws) (m := m) (fun v hv => h v (List.mem_cons_of_mem _ hv))
    omega
theorem packLB_byt : ∀ (ws : List (List Int)), (∀ w ∈ ws, Byt w) → Byt (packL ws) := by
  intro ws
  induction ws with
  | nil => intro _; exact byt_nil
  | cons w ws ih =>
    intro h
    show Byt ((((w.length : Int) % 256) :: w) ++ packL ws)
    exact byt_append (byt_append (byt_one (x := (w.length : Int) % 256) (by omega) (by omega)) (h w List.mem_cons_self)) (ih (fun v hv => h v (List.mem_cons_of_mem _ hv)))
end Go.Proofs.Ytecndndpjekjbaa.S

/- Proofs as bytes: what the program's PackProof and the reference's come to. For all that fit. -/
set_option linter.unusedVariables false
namespace Go.Proofs.Ytecndndpjekjbaa.S
open Go.RowKit Go.Proofs.YtecndndpjekjbaaW.PrintWords Go.Proofs.YtecndndpjekjbaaW.PrintLast Go.Proofs.YtecndndpjekjbaaW.PrintMore Go.Proofs.Ytecndndpjekjbaa.Base
def proofW (p n : Int) (ls : List (List Int)) : List (List Int) := [[p % 256], [n % 256]] ++ ls
def packProofV (p n : Int) (L : List Bool) (ls : List (List Int)) : Int × List Int := if Right n p L ls then (0, packL (proofW p n ls)) else (1, [])
theorem proofW_ok {p n : Int} {L : List Bool} {ls : List (List Int)} (hL : L.length ≤ 15) (h : Right n p L ls) : (proofW p n ls).length ≤ 17 ∧ (∀ w ∈ proofW p n ls, w.length ≤ 32) ∧ (packL (proofW p n ls)).length ≤ 561 := by
  have h1 : (proofW p n ls).length ≤ 17 := by
    unfold proofW
    rw [List.length_append]
    have := h.2.1
    simp only [List.length_cons, List.length_nil]
    omega
  have h2 : ∀ w ∈ proofW p n ls, w.length ≤ 32 := by
    intro w hw
    unfold proofW at hw
    rcases List.mem_append.1 hw with hw | hw
    · simp only [List.mem_cons, List.not_mem_nil, or_false] at hw
      rcases hw with rfl | rfl <;> simp
    · exact Nat.le_of_eq (h.2.2 w hw)
  have h3 := packL_len h2
  exact ⟨h1, h2, by omega⟩
theorem packProofV_length {p n : Int} {L : List Bool} {ls : List (List Int)} (hL : L.length ≤ 15) : (packProofV p n L ls).2.length ≤ 561 := by
  unfold packProofV
  by_cases h : Right n p L ls
  · rw [if_pos h]; exact (proofW_ok hL h).2.2
  · rw [if_neg h]; exact Nat.zero_le _
theorem impl_PackProof_ev (p n : Int) (L : List Bool) (hL : L.length ≤ 15) (h : Placed n p → Ev (fun k => impl_sides.f k n p) L) (ls : List (List Int)) : Ev (fun k => impl_PackProof.f k p n ls) (packProofV p n L ls) := by
  unfold impl_PackProof.f packProofV
  refine ev_bind (impl_isProof_ev n p L h ls) ?_
  by_cases c : Right n p L ls
  · rw [if_pos c]
    obtain ⟨h1, h2, h3⟩ := proofW_ok hL c
    have hn := c.2.1
    have hp : packedV (proofW p n ls) = (packL (proofW p n ls), true) := by
      unfold packedV
      rw [if_neg (by omega), if_pos ⟨fun w hw => by have := h2 w hw; omega, by omega⟩]
    refine ev_pos (decide_eq_true c) (ev_bind (a := packL (proofW p n ls)) ?_ (ev_now rfl))
    unfold impl_packProof.f
    refine ev_bind (ev_now rfl) (ev_pos (by simp only [List.length_cons, List.length_nil]; omega) (ev_bind (a := packL (proofW p n ls)) ?_ (ev_now rfl)))
    unfold impl_pack.f
    refine ev_bind (packed_ev (proofW p n ls) (fun w hw => by have := h2 w hw; omega)) ?_
    rw [hp]
    exact ev_now rfl
  · rw [if_neg c]
    exact ev_neg (fun g => c (of_decide_eq_true g)) (ev_now rfl)
end Go.Proofs.Ytecndndpjekjbaa.S

/- Words that are unpacked: what the program's and the reference's come to; what is unpacked is packed so again. For all bytes that fit. -/
set_option linter.unusedVariables false
namespace Go.Proofs.Ytecndndpjekjbaa.S
open Go.RowKit Go.Proofs.YtecndndpjekjbaaW.PrintWords Go.Proofs.YtecndndpjekjbaaW.PrintLast Go.Proofs.YtecndndpjekjbaaW.PrintMore Go.Proofs.Ytecndndpjekjbaa.Base

def unpL (n : Nat) : Nat → List Int → Int → List (List Int) → Int × Int × List (List Int)
  | 0, _, _, _ => (0, 0, [])
  | _ + 1, [], _, ws => (0, 0, ws)
  | f + 1, c :: d, p, ws => if ws.length = 60 then (2, p, []) else if c > 200 then (3, p, []) else if c > (d.length : Int) then (5, (n : Int), []) else unpL n f (d.drop c.toNat) (p + 1 + c) (ws ++ [d.take c.toNat])
theorem cut_eq (x : List Int) (p c : Nat) (d : List Int) (y : Int) (h : x.drop p = y :: d) : (x.take (p + 1 + c)).drop (p + 1) = d.take c ∧ x.drop (p + 1 + c) = d.drop c := by
  have h1 : x.drop (p + 1) = d := by rw [← List.drop_drop, h]; rfl
  refine ⟨?_, by rw [← List.drop_drop, h1]⟩
  rw [List.drop_take, show p + 1 + c - (p + 1) = c by omega, h1]
theorem unp_fact (x : List Int) (hx : Byt x) (hl : x.length ≤ 4000) (p : Nat) (d : List Int) (c : Int) (h : x.drop p = c :: d) : p < x.length ∧ rd x (p : Int) = c ∧ 0 ≤ c ∧ c ≤ 255 ∧ d.length = x.length - (p + 1) := by
  have hp : p < x.length := by
    rcases Nat.lt_or_ge p x.length with g | g
    · exact g
    · rw [List.drop_of_length_le g] at h
      cases h
  have h2 := h
  rw [List.drop_eq_getElem_cons hp] at h2
  injection h2 with h3 h4
  have hb := hx x[p] (List.getElem_mem _)
  refine ⟨hp, by rw [rd_nat x p hp, h3], by omega, by omega, ?_⟩
  rw [← h4, List.length_drop]
theorem impl_unp_l0 (x : List Int) (hx : Byt x) (hl : x.length ≤ 4000) : ∀ (f p : Nat) (ws : List (List Int)), p ≤ x.length → x.length - p < f → ws.length ≤ 60 → Ev (fun k => impl_UnpackWords.l0 k x ws (p : Int)) (unpL x.length f (x.drop p) (p : Int) ws) := by
  intro f
  induction f with
  | zero => intro p ws h1 h2; omega
  | succ f ih =>
    intro p ws h1 h2 h3
    cases e : x.drop p with
    | nil =>
      have : x.length ≤ p := by
        have := congrArg List.length e
        rw [List.length_drop] at this
        simp at this
        omega
      exact ev_step (fun k => impl_UnpackWords.l0.eq_2 _ _ _ _) (ev_neg (by omega) (ev_now rfl))
    | cons c d =>
      obtain ⟨hp, hr, hc0, hc1, hd⟩ := unp_fact x hx hl p d c e
      refine ev_step (fun k => impl_UnpackWords.l0.eq_2 _ _ _ _) (ev_pos (by omega) (ev_pos (by omega) ?_))
      rw [hr, w64 (n := c) (by omega) (by omega), w64s (by omega), w64 (n := ((p + 1 : Nat) : Int) + c) (by omega) (by omega)]
      unfold unpL
      by_cases g1 : ws.length = 60
      · rw [if_pos g1]; exact ev_pos (by omega) (ev_now rfl)
      rw [if_neg g1]; refine ev_neg (by omega) ?_
      by_cases g2 : c > 200
      · rw [if_pos g2]; exact ev_pos g2 (ev_now rfl)
      rw [if_neg g2]; refine ev_neg g2 ?_
      by_cases g3 : c > (d.length : Int)
      · rw [if_pos g3]; exact ev_pos (by omega) (ev_now rfl)
      rw [if_neg g3]
      refine ev_neg (by omega) (ev_pos (by omega) (ev_pos (by omega) (ev_pos (by omega) ?_)))
      obtain ⟨cn, rfl⟩ := Int.eq_ofNat_of_zero_le hc0
      rw [show (((p + 1 : Nat) : Int) + (cn : Int)) = ((p + 1 + cn : Nat) : Int) by omega, Int.toNat_natCast, Int.toNat_natCast, (cut_eq x p cn d _ e).1, Int.toNat_natCast]
      refine ev_bind (ev_now (show bytes_Clone.f (d.take cn) = some (d.take cn) from by unfold bytes_Clone.f; rw [if_pos (by rw [List.length_take]; omega)])) (ev_pos (by omega) ?_)
      have h := ih (p + 1 + cn) (ws ++ [d.take cn]) (by omega) (by omega) (by simp; omega)
      rw [(cut_eq x p cn d _ e).2] at h
      rw [show (p : Int) + 1 + (cn : Int) = ((p + 1 + cn : Nat) : Int) by omega]
      exact h
def unpackV (x : List Int) : Int × Int × List (List Int) := if x.length > 4000 then (2, 0, []) else unpL x.length (x.length + 1) x 0 []
theorem impl_UnpackWords_ev {x : List Int} (hx : Byt x) : Ev (fun k => impl_UnpackWords.f k x) (unpackV x) := by
  unfold impl_UnpackWords.f unpackV
  by_cases h : x.length > 4000
  · rw [if_pos h]; exact ev_pos (by omega) (ev_now rfl)
  · rw [if_neg h]; exact ev_neg (by omega) (impl_unp_l0 x hx (by omega) (x.length + 1) 0 [] (by omega) (by omega) (by simp))
theorem packL_append : ∀ (a b : List (List Int)), packL (a ++ b) = packL a ++ packL b
  | [], b => rfl
  | w :: a, b => by simp [packL, packL_append a b]
/-- What is unpacked: few words, short ones, of bytes; no code: the bytes are these words'; a code: no words. -/
theorem unpL_ok (n : Nat) : ∀ (f : Nat) (d : List Int) (p : Int) (ws : List (List Int)), Byt d → d.length < f → (∀ w ∈ ws, Byt w ∧ w.length ≤ 200) → ws.length ≤ 60 → 0 ≤ p → p + d.length = n →
    (∀ w ∈ (unpL n f d p ws).2.2, Byt w ∧ w.length ≤ 200) ∧ (unpL n f d p ws).2.2.length ≤ 60 ∧ ((unpL n f d p ws).1 = 0 → packL (unpL n f d p ws).2.2 = packL ws ++ d) ∧ ((unpL n f d p ws).1 ≠ 0 → (unpL n f d p ws).2.2 = [] ∧ (unpL n f d p ws).2.1 ≤ n) ∧ ((unpL n f d p ws).1 = 0 → (unpL n f d p ws).2.1 = 0) := by
  intro f
  induction f with
  | zero => intro d p ws _ h; omega
  | succ f ih =>
    intro d p ws hd hf hw hl hp hn
    cases d with
    | nil => exact ⟨hw, hl, fun _ => by show packL ws = packL ws ++ []; rw [List.append_nil], fun h => absurd rfl h, fun _ => rfl⟩
    | cons c d =>
      have hc := hd c List.mem_cons_self
      have hd2 : Byt d := fun x hx => hd x (List.mem_cons_of_mem _ hx)
      simp only [List.length_cons] at hf hn
      unfold unpL
      by_cases g1 : ws.length = 60
      · rw [if_pos g1]
        exact ⟨fun w h => (by cases h), by simp, fun h => absurd (show (2 : Int) = 0 from h) (by decide), fun _ => ⟨rfl, by show p ≤ (n : Int); omega⟩, fun h => absurd (show (2 : Int) = 0 from h) (by decide)⟩
      rw [if_neg g1]
      by_cases g2 : c > 200
      · rw [if_pos g2]
        exact ⟨fun w h => (by cases h), by simp, fun h => absurd (show (3 : Int) = 0 from h) (by decide), fun _ => ⟨rfl, by show p ≤ (n : Int); omega⟩, fun h => absurd (show (3 : Int) = 0 from h) (by decide)⟩
      rw [if_neg g2]
      by_cases g3 : c > (d.length : Int)
      · rw [if_pos g3]
        exact ⟨fun w h => (by cases h), by simp, fun h => absurd (show (5 : Int) = 0 from h) (by decide), fun _ => ⟨rfl, by show (n : Int) ≤ (n : Int); omega⟩, fun h => absurd (show (5 : Int) = 0 from h) (by decide)⟩
      rw [if_neg g3]
      obtain ⟨cn, rfl⟩ := Int.eq_ofNat_of_zero_le hc.1
      rw [Int.toNat_natCast]
      have ht : (d.take cn).length = cn := by rw [List.length_take]; omega
      have := ih (d.drop cn) (p + 1 + (cn : Int)) (ws ++ [d.take cn]) (byt_drop hd2 cn) (by rw [List.length_drop]; omega) (fun w hw2 => by
        rcases List.mem_append.1 hw2 with h | h
        · exact hw w h
        · rw [List.mem_singleton.1 h]
          exact ⟨byt_take hd2 cn, by omega⟩) (by simp; omega) (by omega) (by rw [List.length_drop]; omega)
      obtain ⟨a1, a2, a3, a4, a5⟩ := this
      refine ⟨a1, a2, fun h => ?_, a4, a5⟩
      rw [a3 h, packL_append]
      have e1 : packL [d.take cn] = ((cn : Int)) :: d.take cn := by
        show ((((d.take cn).length : Int) % 256) :: d.take cn) ++ [] = _
        rw [ht, List.append_nil, Int.emod_eq_of_lt (by omega) (by omega)]
      rw [e1, List.append_assoc, List.cons_append, List.take_append_drop]
theorem unpackV_ok {x : List Int} (hx : Byt x) : (∀ w ∈ (unpackV x).2.2, Byt w ∧ w.length ≤ 200) ∧ (unpackV x).2.2.length ≤ 60 ∧ ((unpackV x).1 = 0 → packL (unpackV x).2.2 = x) ∧ ((unpackV x).1 ≠ 0 → (unpackV x).2.2 = [] ∧ (unpackV x).2.1 ≤ x.length) ∧ ((unpackV x).1 = 0 → (unpackV x).2.1 = 0) := by
  unfold unpackV
  by_cases h : x.length > 4000
  · rw [if_pos h]
    exact ⟨fun w h => (by cases h), by simp, fun h => absurd (show (2 : Int) = 0 from h) (by decide), fun _ => ⟨rfl, by show (0 : Int) ≤ _; omega⟩, fun h => absurd (show (2 : Int) = 0 from h) (by decide)⟩
  · rw [if_neg h]
    have := unpL_ok x.length (x.length + 1) x 0 [] hx (by omega) (fun w h => (by cases h)) (by simp) (by omega) (by omega)
    exact this
/-- Words that are packed are unpacked as they were. -/
theorem unpL_pack (n : Nat) : ∀ (vs : List (List Int)) (f : Nat) (p : Int) (ws : List (List Int)), (∀ w ∈ vs, w.length ≤ 200) → (packL vs).length < f → ws.length + vs.length ≤ 60 → unpL n f (packL vs) p ws = (0, 0, ws ++ vs) := by
  intro vs
  induction vs with
  | nil =>
    intro f p ws _ hf _
    obtain ⟨f, rfl⟩ : ∃ m, f = m + 1 := ⟨f - 1, by simp [packL] at hf; omega⟩
    show (0, 0, ws) = _
    rw [List.append_nil]
  | cons v vs ih =>
    intro f p ws hw hf hl
    have hv := hw v List.mem_cons_self
    rw [packL_cons_length] at hf
    simp only [List.length_cons] at hl
    obtain ⟨f, rfl⟩ : ∃ m, f = m + 1 := ⟨f - 1, by omega⟩
    have e : packL (v :: vs) = (v.length : Int) :: (v ++ packL vs) := by
      show ((v.length : Int) % 256 :: v) ++ packL vs = _
      rw [Int.emod_eq_of_lt (by omega) (by omega)]
      rfl
    rw [e]
    unfold unpL
    rw [if_neg (by omega), if_neg (by omega), if_neg (by rw [List.length_append]; omega), Int.toNat_natCast, List.drop_left, List.take_left, ih f _ _ (fun w h => hw w (List.mem_cons_of_mem _ h)) (by omega) (by simp; omega), List.append_assoc]
    rfl
theorem unpackV_pack {vs : List (List Int)} (hw : ∀ w ∈ vs, w.length ≤ 200) (hl : vs.length ≤ 60) (hn : (packL vs).length ≤ 4000) : unpackV (packL vs) = (0, 0, vs) := by
  unfold unpackV
  rw [if_neg (by omega), unpL_pack _ vs _ _ [] hw (by omega) (by simpa using hl)]
  rfl
end Go.Proofs.Ytecndndpjekjbaa.S

/- What the reference's draws come to, as far as the laws need it: each ends, in bounds. For every code that fits. -/
set_option linter.unusedVariables false
namespace Go.Proofs.Ytecndndpjekjbaa.S
open Go.RowKit Go.Proofs.YtecndndpjekjbaaW.PrintWords Go.Proofs.YtecndndpjekjbaaW.PrintLast Go.Proofs.YtecndndpjekjbaaW.PrintMore Go.Proofs.Ytecndndpjekjbaa.Base

theorem tmod_range {a n : Int} (h0 : 0 ≤ a) (h1 : 1 ≤ n) : 0 ≤ Int.tmod a n ∧ Int.tmod a n < n := by
  rw [Int.tmod_eq_emod_of_nonneg h0]
  exact ⟨Int.emod_nonneg _ (by omega), Int.emod_lt_of_pos _ (by omega)⟩
theorem next_ok {c : List Int} (hc : Byt c) {at_ : Int} (h0 : 0 ≤ at_) (h1 : at_ ≤ 1099511627776) (n : Int) : ∃ v, spec_l1Next.f c at_ n = some (v, at_ + 1) ∧ 0 ≤ v ∧ (v < n ∨ v = 0) := by
  unfold spec_l1Next.f
  rw [w64 (n := at_ + 1) (by omega) (by omega), w64 (n := at_ + 1 - 1) (by omega) (by omega), show at_ + 1 - 1 = at_ by omega]
  by_cases hn : n < 1
  · exact ⟨0, by rw [if_pos hn], by omega, .inr rfl⟩
  rw [if_neg hn]
  by_cases hl : (c.length : Int) = 0
  · rw [if_pos hl, if_neg (by omega), w64 (n := at_ * 7) (by omega) (by omega)]
    have := tmod_range (a := at_ * 7) (n := n) (by omega) (by omega)
    exact ⟨_, rfl, this.1, .inl this.2⟩
  rw [if_neg hl]
  have hp := tmod_range (a := at_) (n := (c.length : Int)) h0 (by omega)
  have hp2 := tmod_range (a := at_ + 1) (n := (c.length : Int)) (by omega) (by omega)
  have hq : 0 ≤ Int.tdiv at_ (c.length : Int) ∧ Int.tdiv at_ (c.length : Int) ≤ at_ := by
    rw [Int.tdiv_eq_ediv_of_nonneg h0]
    exact ⟨Int.ediv_nonneg h0 (by omega), Int.ediv_le_self _ h0⟩
  rw [if_pos hp.1, if_pos hp.2]
  have hb1 := byt_rd hc (Int.tmod at_ (c.length : Int))
  generalize rd c (Int.tmod at_ (c.length : Int)) = b1 at *
  generalize Int.tdiv at_ (c.length : Int) = q at *
  rw [w64 (n := b1) (by omega) (by omega), w64 (n := q) (by omega) (by omega), w64 (n := q * 37) (by omega) (by omega), w64 (n := b1 + q * 37) (by omega) (by omega)]
  by_cases hg : n > 200
  · rw [if_pos hg, w64 (n := at_ + 1) (by omega) (by omega), if_pos hp2.1, if_pos hp2.2, if_neg (by omega)]
    have hb2 := byt_rd hc (Int.tmod (at_ + 1) (c.length : Int))
    generalize rd c (Int.tmod (at_ + 1) (c.length : Int)) = b2 at *
    rw [w64 (n := b2) (by omega) (by omega), w64 (n := b2 * 13) (by omega) (by omega), w64 (n := (b1 + q * 37) * 251) (by omega) (by omega), w64 (n := (b1 + q * 37) * 251 + b2 * 13) (by omega) (by omega), w64 (n := (b1 + q * 37) * 251 + b2 * 13 + at_) (by omega) (by omega)]
    have := tmod_range (a := (b1 + q * 37) * 251 + b2 * 13 + at_) (n := n) (by omega) (by omega)
    exact ⟨_, rfl, this.1, .inl this.2⟩
  · rw [if_neg hg, if_neg (by omega)]
    have := tmod_range (a := b1 + q * 37) (n := n) (by omega) (by omega)
    exact ⟨_, rfl, this.1, .inl this.2⟩
theorem some_l0 {c : List Int} (hc : Byt c) : ∀ (n : Nat) (x : List Int) (at_ : Int), 0 ≤ at_ → at_ + n ≤ 1099511627776 → Byt x → x.length + n ≤ 100000000 → ∃ r, Ev (fun k => spec_l1Some.l0 k (n : Int) x c at_) (r, at_ + n) ∧ Byt r ∧ r.length = x.length + n := by
  intro n
  induction n with
  | zero =>
    intro x at_ h0 h1 hx hl
    exact ⟨x, ev_step (fun k => spec_l1Some.l0.eq_2 _ _ _ _ _) (ev_neg (by omega) (ev_now (by simp))), hx, by omega⟩
  | succ n ih =>
    intro x at_ h0 h1 hx hl
    obtain ⟨v, hv, hv0, _⟩ := next_ok hc h0 (by omega) 256
    obtain ⟨r, hr, hb, hrl⟩ := ih (x ++ [v % 256]) (at_ + 1) (by omega) (by omega) (byt_append hx (byt_one (by omega) (by omega))) (by simp; omega)
    refine ⟨r, ev_step (fun k => spec_l1Some.l0.eq_2 _ _ _ _ _) (ev_pos (by omega) (ev_bind (ev_now hv) (ev_pos (by omega) ?_))), hb, by rw [hrl]; simp; omega⟩
    rw [w64 (by omega) (by omega), show ((n + 1 : Nat) : Int) - 1 = (n : Int) by omega]
    rw [show at_ + ((n + 1 : Nat) : Int) = at_ + 1 + (n : Int) by omega]
    exact hr
theorem some_ok {c : List Int} (hc : Byt c) (n at_ : Int) (h0 : 0 ≤ at_) (h1 : at_ ≤ 1000000000) (hn : n ≤ 100000) : ∃ r a, Ev (fun k => spec_l1Some.f k c at_ n) (r, a) ∧ Byt r ∧ r.length = n.toNat ∧ at_ ≤ a ∧ a ≤ at_ + 100000 := by
  by_cases h : 0 ≤ n
  · obtain ⟨r, hr, hb, hl⟩ := some_l0 hc n.toNat [] at_ h0 (by omega) byt_nil (by simp; omega)
    refine ⟨r, at_ + n.toNat, ?_, hb, by rw [hl]; simp, by omega, by omega⟩
    unfold spec_l1Some.f
    rw [Int.toNat_of_nonneg h] at hr
    rw [Int.toNat_of_nonneg h]
    exact hr
  · refine ⟨[], at_, ?_, byt_nil, by simp; omega, by omega, by omega⟩
    unfold spec_l1Some.f
    exact ev_step (fun k => spec_l1Some.l0.eq_2 _ _ _ _ _) (ev_neg (by omega) (ev_now rfl))
theorem pick_ok {c : List Int} (hc : Byt c) {at_ : Int} (h0 : 0 ≤ at_) (h1 : at_ ≤ 1099511627776) (L : List Int) (hL : 0 < L.length) : ∃ v, spec_l1Pick.f c at_ L = some (v, at_ + 1) ∧ v ∈ L := by
  obtain ⟨v, hv, hv0, hv1⟩ := next_ok hc h0 h1 (L.length : Int)
  unfold spec_l1Pick.f
  rw [hv, Option.bind_some, if_pos hv0, if_pos (by show v < _; omega)]
  refine ⟨rd L v, rfl, ?_⟩
  obtain ⟨j, rfl⟩ := Int.eq_ofNat_of_zero_le hv0
  rw [rd_nat L j (by omega)]
  exact List.getElem_mem _
end Go.Proofs.Ytecndndpjekjbaa.S

/- Leaves and places that the reference draws: they are few and short, and their bytes are bytes. For every code. -/
set_option linter.unusedVariables false
namespace Go.Proofs.Ytecndndpjekjbaa.S
open Go.RowKit Go.Proofs.YtecndndpjekjbaaW.PrintWords Go.Proofs.YtecndndpjekjbaaW.PrintLast Go.Proofs.YtecndndpjekjbaaW.PrintMore Go.Proofs.Ytecndndpjekjbaa.Base

theorem leaves_l0 {c : List Int} (hc : Byt c) : ∀ (n : Nat) (x : List (List Int)) (at_ : Int), 0 ≤ at_ → at_ + 200000 * n ≤ 900000000 → x.length + n ≤ 20 → (∀ l ∈ x, Byt l ∧ l.length ≤ 4) →
    ∃ r a, Ev (fun k => spec_l3Leaves.l0 k x (n : Int) c at_) (r, a) ∧ r.length ≤ 20 ∧ (∀ l ∈ r, Byt l ∧ l.length ≤ 4) ∧ 0 ≤ a ∧ a ≤ 900000001 := by
  intro n
  induction n with
  | zero =>
    intro x at_ h0 h1 hl hx
    obtain ⟨v, hv, hv0, _⟩ := next_ok hc h0 (by omega) 40
    have hch : spec_l1Chance.f c at_ 40 = some ((v == 0), at_ + 1) := by
      unfold spec_l1Chance.f
      rw [hv]
      rfl
    by_cases g : (v == 0) = true
    · refine ⟨List.replicate 17 [], at_ + 1, ev_step (fun k => spec_l3Leaves.l0.eq_2 _ _ _ _ _) (ev_neg (by omega) (ev_bind (ev_now hch) (ev_pos g (ev_pos (by omega) (ev_now rfl))))), by simp, fun l hl => ?_, by omega, by omega⟩
      rw [(List.mem_replicate.1 hl).2]
      exact ⟨byt_nil, by simp⟩
    · exact ⟨x, at_ + 1, ev_step (fun k => spec_l3Leaves.l0.eq_2 _ _ _ _ _) (ev_neg (by omega) (ev_bind (ev_now hch) (ev_neg g (ev_now rfl)))), by omega, hx, by omega, by omega⟩
  | succ n ih =>
    intro x at_ h0 h1 hl hx
    obtain ⟨v, hv, hv0, hv1⟩ := next_ok hc h0 (by omega) 4
    obtain ⟨r, a, hr, hb, hrl, ha0, ha1⟩ := some_ok hc v (at_ + 1) (by omega) (by omega) (by omega)
    obtain ⟨rs, a2, hrs, h2, h3, h4, h5⟩ := ih (x ++ [r]) a (by omega) (by omega) (by simp; omega) (fun l hl => by
      rcases List.mem_append.1 hl with h | h
      · exact hx l h
      · rw [List.mem_singleton.1 h]; exact ⟨hb, by omega⟩)
    refine ⟨rs, a2, ev_step (fun k => spec_l3Leaves.l0.eq_2 _ _ _ _ _) (ev_pos (by omega) (ev_bind (ev_now hv) (ev_bind hr (ev_pos (by omega) ?_)))), h2, h3, h4, h5⟩
    rw [w64 (by omega) (by omega), show ((n + 1 : Nat) : Int) - 1 = (n : Int) by omega]
    exact hrs
theorem leaves_ok {c : List Int} (hc : Byt c) {at_ : Int} (h0 : 0 ≤ at_) (h1 : at_ ≤ 1000000) : ∃ r a, Ev (fun k => spec_l3Leaves.f k c at_) (r, a) ∧ r.length ≤ 20 ∧ (∀ l ∈ r, Byt l ∧ l.length ≤ 4) ∧ 0 ≤ a ∧ a ≤ 900000001 := by
  obtain ⟨v, hv, hm⟩ := pick_ok hc (at_ := at_) h0 (by omega) [1, 2, 3, 4, 5, 6, 7, 8, 0, 9, 16] (by simp)
  simp only [List.mem_cons, List.not_mem_nil, or_false] at hm
  obtain ⟨n, rfl⟩ : ∃ n : Nat, v = (n : Int) := ⟨v.toNat, by omega⟩
  obtain ⟨r, a, hr, h2, h3, h4, h5⟩ := leaves_l0 hc n [] (at_ + 1) (by omega) (by omega) (by simp; omega) (fun l hl => by cases hl)
  refine ⟨r, a, ?_, h2, h3, h4, h5⟩
  unfold spec_l3Leaves.f
  exact ev_bind (ev_now hv) hr
theorem drawProve_ok {c : List Int} (hc : Byt c) : ∃ r p, Ev (fun k => spec_DrawProveLeaf.f k c) (r, p) ∧ r.length ≤ 20 ∧ (∀ l ∈ r, Byt l ∧ l.length ≤ 4) := by
  obtain ⟨r, a, hr, h2, h3, h4, h5⟩ := leaves_ok hc (at_ := 0) (by omega) (by omega)
  obtain ⟨m, hm⟩ : ∃ m, spec_l1Max.f 1 (r.length : Int) = some m := by
    unfold spec_l1Max.f
    by_cases g : (1 : Int) > (r.length : Int)
    · exact ⟨1, by rw [if_pos g]⟩
    · exact ⟨_, by rw [if_neg g]⟩
  obtain ⟨v1, hv1, _, _⟩ := next_ok hc (at_ := a) h4 (by omega) m
  obtain ⟨v2, hv2, _, _⟩ := next_ok hc (at_ := a + 1) (by omega) (by omega) m
  obtain ⟨p, hp, _⟩ := pick_ok hc (at_ := a + 1 + 1) (by omega) (by omega) [v1, v2, wrap64 ((r.length : Int) - 1), (r.length : Int), -1] (by simp)
  refine ⟨r, p, ?_, h2, h3⟩
  unfold spec_DrawProveLeaf.f
  exact ev_bind (ev_now (a := spec_l1Source.f c) (r := (c, 0)) rfl) (ev_bind hr (ev_bind (ev_now hm) (ev_bind (ev_now hv1) (ev_bind (ev_now hm) (ev_bind (ev_now hv2) (ev_bind (ev_now hp) (ev_now rfl)))))))
end Go.Proofs.Ytecndndpjekjbaa.S

/- Leaves that fit, and the tree's root and paths: what the program's and the reference's come to. For all leaves of bytes. -/
set_option linter.unusedVariables false
namespace Go.Proofs.Ytecndndpjekjbaa.S
open Go.RowKit Go.Proofs.YtecndndpjekjbaaW.PrintWords Go.Proofs.YtecndndpjekjbaaW.PrintLast Go.Proofs.YtecndndpjekjbaaW.PrintMore Go.Proofs.Ytecndndpjekjbaa.Base Go.Proofs.Ytecndndpjekjbaa.Sha

theorem many_l0 (ls : List (List Int)) (h16 : ls.length ≤ 16) : ∀ (d i : Nat), i + d = ls.length → Ev (fun k => spec_l3Many.l0 k ls (i : Int)) (!decide (∀ l ∈ ls.drop i, l.length ≤ 4000)) := by
  intro d
  induction d with
  | zero =>
    intro i h
    rw [List.drop_of_length_le (by omega)]
    exact ev_step (fun k => spec_l3Many.l0.eq_2 _ _ _) (ev_neg (by omega) (ev_now (by simp)))
  | succ d ih =>
    intro i h
    have hlt : i < ls.length := by omega
    refine ev_step (fun k => spec_l3Many.l0.eq_2 _ _ _) (ev_pos (by omega) (ev_pos (by omega) ?_))
    rw [rdLL ls i hlt, List.drop_eq_getElem_cons hlt]
    by_cases c : ls[i].length > 4000
    · rw [decide_eq_false (fun g => by have := g ls[i] List.mem_cons_self; omega)]
      exact ev_pos (by omega) (ev_now rfl)
    · refine ev_neg (by omega) ?_
      rw [w64s (by omega)]
      refine ev_eq (ih (i + 1) (by omega)) ?_
      congr 1
      rw [decide_eq_decide]
      constructor
      · intro g l hl
        rcases List.mem_cons.1 hl with rfl | hl
        · omega
        · exact g l hl
      · exact fun g l hl => g l (List.mem_cons_of_mem _ hl)
theorem many_ev (ls : List (List Int)) : Ev (fun k => spec_l3Many.f k ls) (!decide (Few ls)) := by
  unfold spec_l3Many.f
  by_cases c : ls.length ≤ 16
  · have h := many_l0 ls c ls.length 0 (by omega)
    rw [List.drop_zero] at h
    refine ev_neg (by omega) (ev_eq h ?_)
    congr 1
    rw [decide_eq_decide]
    exact ⟨fun g => ⟨c, g⟩, fun g => g.2⟩
  · rw [decide_eq_false (fun g : Few ls => c g.1)]
    exact ev_pos (by omega) (ev_now rfl)
end Go.Proofs.Ytecndndpjekjbaa.S

/- Is a number in its bounds: the program's and the reference's answer. -/
set_option linter.unusedVariables false
namespace Go.Proofs.Ytecndndpjekjbaa.S
open Go.RowKit Go.Proofs.YtecndndpjekjbaaW.PrintWords Go.Proofs.YtecndndpjekjbaaW.PrintLast Go.Proofs.YtecndndpjekjbaaW.PrintMore Go.Proofs.Ytecndndpjekjbaa.Base

theorem l1In_eq (a b c : Int) : spec_l1In.f a b c = some (decide (b ≤ a ∧ a ≤ c)) := by
  unfold spec_l1In.f
  by_cases h : b ≤ a <;> simp [h]
end Go.Proofs.Ytecndndpjekjbaa.S

/- Rows of rows of the call's own, no two of which share memory; where in memory they lie; what the laws' marks make of them. No condition beyond those in the statements. -/
set_option linter.unusedVariables false
set_option linter.unusedSimpArgs false
namespace Go.Proofs.Ytecndndpjekjbaa.S
open Go Go.RowKit Go.Proofs.YtecndndpjekjbaaW.PrintWords Go.Proofs.YtecndndpjekjbaaW.PrintLast Go.Proofs.YtecndndpjekjbaaW.PrintMore Go.Proofs.Ytecndndpjekjbaa.Base

def In (lo hi : Nat) : Nat → Prop := fun k => lo ≤ k ∧ k < hi
theorem In_apart {lo hi a b : Nat} (h : hi ≤ a ∨ b ≤ lo) : ∀ k, In lo hi k → ¬ In a b k := fun k h1 h2 => by
  unfold In at h1 h2
  omega
/-- A row that was made lies in the blocks that are new. -/
theorem F_in {α : Type} {d : Kd α} {e base : Nat} {ok : Nat → Prop} {w : World} {v : Value} {xs : List α} (h : d.R e w base ok v xs) : ∃ A c, v = .slice A xs.length c ∧ xs.length ≤ c ∧ Kd.F d w (In base w.heap.size) A xs.length xs := by
  obtain ⟨A, c, rfl⟩ := Kd.R_slice h
  exact ⟨A, c, rfl, (Kd.R_reads' h).2.1, Kd.F_mono (Kd.R_F (Kd.R_bound h)) (fun k hk => ⟨hk.2.1, hk.2.2.1⟩)⟩
theorem F_keptIn {α : Type} {d : Kd α} {w w1 : World} {lo hi a b n : Nat} {A : Option Addr} {xs : List α} (h : Kd.F d w (In lo hi) A n xs) (hk : Kept w w1 (In a b)) (hd : hi ≤ a ∨ b ≤ lo) : Kd.F d w1 (In lo hi) A n xs := Kd.F_kept h hk (In_apart hd)
theorem add_block (ad : Addr) (i : Nat) : (ad.add i).block = ad.block := by
  unfold Addr.add
  split <;> rfl
/-- Rows of bytes, each its own memory, all between lo and hi. -/
def AR (base : Nat) (w : World) (lo hi : Nat) (A : Option Addr) (ls : List (List Int)) : Prop :=
  ls.length ≤ 9223372036854775807 ∧ (ls = [] ∨ ∃ (ad : Addr) (vs : Nat → Value), A = some ad ∧ (lo ≤ ad.block ∧ ad.block < hi) ∧
    (∀ i, (h : i < ls.length) → w.cell? (ad.add i) = some (vs i) ∧ Kd.R (Kd.int .u8) 5 w base (fun k => some k = (vs i).ownBlock) (vs i) ls[i]) ∧
    (∀ i k, i < ls.length → (vs i).ownBlock = some k → (lo ≤ k ∧ k < hi) ∧ k ≠ ad.block) ∧
    (∀ i j k, i < ls.length → j < ls.length → i ≠ j → (vs i).ownBlock = some k → (vs j).ownBlock ≠ some k))
section
variable {base lo hi a b : Nat} {w w1 : World} {A : Option Addr} {ls : List (List Int)}
theorem AR.below (h : AR base w lo hi A ls) (hb : Below w.heap.size w w1) : AR base w1 lo hi A ls := by
  refine ⟨h.1, h.2.imp id ?_⟩
  rintro ⟨ad, vs, hA, hg, hr, hin, hap⟩
  exact ⟨ad, vs, hA, hg, fun i hi => ⟨(hb.cell (World.block_lt_of_cell? w _ (hr i hi).1)).trans (hr i hi).1, Kd.R_below (hr i hi).2 hb⟩, hin, hap⟩
theorem AR.kept (h : AR base w lo hi A ls) (hk : Kept w w1 (In a b)) (hd : hi ≤ a ∨ b ≤ lo) : AR base w1 lo hi A ls := by
  refine ⟨h.1, h.2.imp id ?_⟩
  rintro ⟨ad, vs, hA, hg, hr, hin, hap⟩
  exact ⟨ad, vs, hA, hg, fun i hi => ⟨cell_kept (hr i hi).1 hk (by rw [add_block]; exact In_apart hd _ hg), Kd.R_kept (hr i hi).2 hk (fun k hk2 => In_apart hd k (hin i k hi hk2.symm).1)⟩, hin, hap⟩
theorem AR.foot (h : AR base w lo hi A ls) : Kd.F (Kd.slice 5 (Kd.int .u8)) w (In lo hi) A ls.length ls := fun W' hW => by
  refine ⟨rfl, h.1, fun hp => ?_⟩
  rcases h.2 with rfl | ⟨ad, vs, hA, hg, hr, hin, hap⟩
  · simp at hp
  refine ⟨ad, hA, fun j p hj => ?_⟩
  obtain ⟨hjl, hpj⟩ := List.getElem?_eq_some_iff.1 hj
  obtain ⟨hc, hR⟩ := hr j hjl
  have hR2 : Kd.R (Kd.int .u8) 5 W' base (fun k => some k = (vs j).ownBlock) (vs j) ls[j] := Kd.R_step hR (fun k ho hlt => hW k (hin j k hjl ho.symm).1 hlt)
  rw [hpj] at hR2
  obtain ⟨A', c', hv⟩ := Kd.R_slice hR2
  rw [hv] at hR2
  obtain ⟨_, h2, h3⟩ := Kd.R_reads' hR2
  refine ⟨[vs j], rfl, ⟨A', c', by rw [hv], h2, h3⟩, fun i u hu => ?_⟩
  cases i with
  | zero =>
    have e1 : vs j = u := by simpa using hu
    rw [← e1]
    show W'.cell? (ad.add (j * 1 + 0)) = _
    rw [Nat.mul_one, Nat.add_zero]
    have hb := hW ad.block hg (by have := World.block_lt_of_cell? w _ hc; rwa [add_block] at this)
    rw [← hc]
    unfold World.cell?
    rw [add_block, hb]
  | succ i => simp at hu
/-- A cut of such rows. -/
theorem AR.drop (h : AR base w lo hi A ls) (m c : Nat) (hm : m ≤ ls.length) (hc : ls.length ≤ c) : AR base w lo hi (if c = m then A else A.map (·.add m)) (ls.drop m) := by
  refine ⟨by have := h.1; rw [List.length_drop]; omega, ?_⟩
  rcases h.2 with rfl | ⟨ad, vs, hA, hg, hr, hin, hap⟩
  · exact .inl (by simp)
  by_cases hz : ls.length = m
  · exact .inl (List.drop_of_length_le (by omega))
  refine .inr ⟨ad.add m, fun i => vs (m + i), by rw [if_neg (by omega), hA]; rfl, by rw [add_block]; exact hg, fun i hi => ?_, fun i k hi hk => ?_, fun i j k hi hj hij hk => ?_⟩
  · have hi2 : m + i < ls.length := by rw [List.length_drop] at hi; omega
    obtain ⟨h1, h2⟩ := hr (m + i) hi2
    have ha : (ad.add m).add i = ad.add (m + i) := by
      unfold Addr.add
      by_cases h1 : m = 0 <;> by_cases h2 : i = 0 <;> simp [h1, h2, Nat.add_assoc]
    refine ⟨by rw [ha]; exact h1, ?_⟩
    rw [List.getElem_drop]
    exact h2
  · rw [List.length_drop] at hi
    rw [add_block]
    exact hin (m + i) k (by omega) hk
  · rw [List.length_drop] at hi hj
    exact hap (m + i) (m + j) k (by omega) (by omega) (by omega) hk
theorem AR.take (h : AR base w lo hi A ls) (m : Nat) : AR base w lo hi A (ls.take m) := by
  refine ⟨by have := h.1; rw [List.length_take]; omega, ?_⟩
  rcases h.2 with rfl | ⟨ad, vs, hA, hg, hr, hin, hap⟩
  · exact .inl (by simp)
  refine .inr ⟨ad, vs, hA, hg, fun i hi => ?_, fun i k hi hk => ?_, fun i j k hi hj hij hk => ?_⟩
  · rw [List.length_take] at hi
    rw [List.getElem_take]
    exact hr i (by omega)
  · rw [List.length_take] at hi
    exact hin i k (by omega) hk
  · rw [List.length_take] at hi hj
    exact hap i j k (by omega) (by omega) hij hk
theorem AR.nil (base : Nat) (w : World) (lo hi : Nat) (A : Option Addr) : AR base w lo hi A [] := ⟨by simp, .inl rfl⟩
end
/-- What the printed walks call apart is so. -/
theorem AR_of_S {e base base0 : Nat} {ok : Nat → Prop} {w : World} {v : Value} {ls : List (List Int)} (h : Kd.S (Kd.slice 5 (Kd.int .u8)) e w base0 ok v ls) (hb : base ≤ base0) :
    ∃ A c, v = .slice A ls.length c ∧ ls.length ≤ c ∧ AR base w base0 w.heap.size A ls := by
  have hR := Kd.S_R h
  obtain ⟨A, c, rfl⟩ := Kd.R_slice hR
  obtain ⟨_, hc, hC⟩ := Kd.R_reads' hR
  refine ⟨A, c, rfl, hc, hC.2.1, ?_⟩
  by_cases hz : ls = []
  · exact .inl hz
  have hp : 0 < ls.length := by cases ls with
    | nil => exact absurd rfl hz
    | cons x l => simp
  obtain ⟨f, hf⟩ := h
  obtain ⟨g, cap, hv, hg0, hg1, cells, hcells⟩ := Kd.R_form hR hp
  injection hv with hv1 hv2 hv3
  subst hv1
  have each : ∀ i, (hi : i < ls.length) → ∃ u, w.cell? ⟨g, i, none⟩ = some u ∧ Kd.R (Kd.int .u8) 5 w base0 (fun k => (ok k ∧ k ≠ g) ∧ f k = i) u ls[i] := fun i hi => by
    obtain ⟨cs, hcl, hM, hcc, _⟩ := Kd.R_elem (d := Kd.tag f (Kd.slice 5 (Kd.int .u8))) hf ([], 0) (i : Int) (by omega) (by omega)
    have e1 : ls.zipIdx.getD (i : Int).toNat ([], 0) = (ls[i], i) := by
      rw [Int.toNat_natCast, List.getD_eq_getElem?_getD, Kd.zip_at (List.getElem?_eq_getElem hi)]
      rfl
    rw [e1] at hM
    obtain ⟨u, rfl, hu⟩ := hM
    refine ⟨u, ?_, hu⟩
    have h1 := hcc 0 u rfl
    rw [Int.toNat_natCast] at h1
    have h2 : w.cell? ⟨g, i * 1 + 0, none⟩ = some u := h1
    rwa [Nat.mul_one, Nat.add_zero] at h2
  refine .inr ⟨⟨g, 0, none⟩, fun i => (w.cell? ⟨g, i, none⟩).getD (.bool false), rfl, ⟨hg0, hg1⟩, fun i hi => ?_, fun i k hi hk => ?_, fun i j k hi hj hij hk hk2 => ?_⟩
  · obtain ⟨u, hu, hr⟩ := each i hi
    rw [add_plain]
    simp only [hu, Option.getD_some]
    exact ⟨trivial, Kd.R_lower (Kd.R_tight rfl hr) hb⟩
  · obtain ⟨u, hu, hr⟩ := each i hi
    simp only [hu, Option.getD_some] at hk
    have := (Kd.R_bound hr).1 k hk
    exact ⟨⟨this.2.1, this.2.2.1⟩, this.1.1.2⟩
  · obtain ⟨u, hu, hr⟩ := each i hi
    obtain ⟨u2, hu2, hr2⟩ := each j hj
    simp only [hu, Option.getD_some] at hk
    simp only [hu2, Option.getD_some] at hk2
    have h1 := (hr.1 k hk).2
    have h2 := (hr2.1 k hk2).2
    omega
/-- One row is written. -/
theorem AR.put {base lo hi : Nat} {w w1 : World} {ad : Addr} {vs : Nat → Value} {ls : List (List Int)} {i : Nat} {l2 : List Int} (hlen : ls.length ≤ 9223372036854775807) (hg : lo ≤ ad.block ∧ ad.block < hi)
    (hr : ∀ i, (h : i < ls.length) → w.cell? (ad.add i) = some (vs i) ∧ Kd.R (Kd.int .u8) 5 w base (fun k => some k = (vs i).ownBlock) (vs i) ls[i])
    (hin : ∀ i k, i < ls.length → (vs i).ownBlock = some k → (lo ≤ k ∧ k < hi) ∧ k ≠ ad.block)
    (hap : ∀ i j k, i < ls.length → j < ls.length → i ≠ j → (vs i).ownBlock = some k → (vs j).ownBlock ≠ some k)
    (hi_ : i < ls.length) (h2 : Kd.R (Kd.int .u8) 5 w1 base (fun k => some k = (vs i).ownBlock) (vs i) l2) (hk : Kept w w1 (fun k => some k = (vs i).ownBlock)) :
    (∀ j, (h : j < (ls.set i l2).length) → w1.cell? (ad.add j) = some (vs j) ∧ Kd.R (Kd.int .u8) 5 w1 base (fun k => some k = (vs j).ownBlock) (vs j) (ls.set i l2)[j]) := by
  intro j hj
  have hj2 : j < ls.length := by simpa using hj
  obtain ⟨hc, hR⟩ := hr j hj2
  refine ⟨cell_kept hc hk (by rw [add_block]; exact fun e => (hin i _ hi_ e.symm).2 rfl), ?_⟩
  rw [List.getElem_set]
  split
  · rename_i e
    subst e
    exact h2
  · rename_i e
    exact Kd.R_kept hR hk (fun k hk1 hk2 => hap i j k hi_ hj2 e hk2.symm hk1.symm)
end Go.Proofs.Ytecndndpjekjbaa.S
namespace Go.Proofs.Ytecndndpjekjbaa.S
open Go Go.RowKit Go.Proofs.YtecndndpjekjbaaW.PrintWords Go.Proofs.YtecndndpjekjbaaW.PrintLast Go.Proofs.YtecndndpjekjbaaW.PrintMore Go.Proofs.Ytecndndpjekjbaa.Base
/-- Where a walk stands still: its goal under a word. -/
def Hold (p : Prop) : Prop := p
theorem hold_here {p : Prop} (h : Hold p) : p := h
theorem hold_go {p : Prop} (h : p) : Hold p := h
theorem AR.drewN {base lo hi : Nat} {w : World} {A : Option Addr} {ls : List (List Int)} (h : AR base w lo hi A ls) (n : Nat) : AR base (w.drewN n) lo hi A ls := h.below (pw_below_drewN (Below.refl _ _) n)
theorem AR.drew {base lo hi : Nat} {w : World} {A : Option Addr} {ls : List (List Int)} (h : AR base w lo hi A ls) : AR base w.drew lo hi A ls := h.below (below_drew1 (Below.refl _ _))
theorem AR.alloc {base lo hi : Nat} {w : World} {A : Option Addr} {ls : List (List Int)} (h : AR base w lo hi A ls) (o : Obj) : AR base (w.alloc o) lo hi A ls := h.below (below_alloc (Below.refl _ _) o)
/-- A row of bytes of the call's own, between lo and hi. -/
theorem B_of_R {e base base0 : Nat} {ok : Nat → Prop} {w : World} {v : Value} {xs : List Int} (h : Kd.R (Kd.int .u8) e w base0 ok v xs) (hb : base ≤ base0) :
    ∃ A c, v = .slice A xs.length c ∧ Kd.R (Kd.int .u8) e w base (In base0 w.heap.size) (.slice A xs.length c) xs := by
  obtain ⟨A, c, rfl⟩ := Kd.R_slice h
  exact ⟨A, c, rfl, Kd.R_lower (Kd.R_mono (Kd.R_bound h) (fun k hk => ⟨hk.2.1, hk.2.2.1⟩)) hb⟩
theorem B_kept {e base lo hi a b : Nat} {w w1 : World} {v : Value} {xs : List Int} (h : Kd.R (Kd.int .u8) e w base (In lo hi) v xs) (hk : Kept w w1 (In a b)) (hd : hi ≤ a ∨ b ≤ lo) : Kd.R (Kd.int .u8) e w1 base (In lo hi) v xs := Kd.R_kept h hk (In_apart hd)
theorem B_tight {e base lo hi : Nat} {ok : Nat → Prop} {w w0 : World} {v : Value} {xs ys : List Int} (h0 : Kd.R (Kd.int .u8) e w0 base (In lo hi) v ys) (h : Kd.R (Kd.int .u8) e w base ok v xs) : Kd.R (Kd.int .u8) e w base (In lo hi) v xs := Kd.R_mono (Kd.R_tight rfl h) (fun k hk => h0.1 k hk.symm)
theorem blk_keptIn {g a b : Nat} {w w1 : World} {o : Obj} (h : w.heap[g]? = some o) (hk : Kept w w1 (In a b)) (hd : g < a ∨ b ≤ g) : w1.heap[g]? = some o := blk_kept h hk (fun h2 => by unfold In at h2; omega)
theorem row_store {P : Program} {ops : Array Oper} {rest : List Oper} {o : Oper} {a : Act} {w w0 : World} {B : Nat} {Q : Exit → Act → World → Prop} (hgd : o.guard = none) (ty : TypeId) (x y : Operand) (ho : o.op = .store ty x y)
    (g : Nat) (cells : Array Value) (hx : a.eval x = .pointer (some ⟨g, 0, none⟩)) (hy : a.eval y = .agg cells)
    (t : TypeId) (old : Array Value) (hg : w.heap[g]? = some (.cells old t (0, 0))) (hi : (P.info? ty).map (·.size) = some cells.size)
    (hold : old.size = cells.size) (h1 : cells.all (·.oneCell') = true) (hd : o.dst = none) (hb : Below B w0 w) (hB : B ≤ g)
    (h : ∀ w1 : World, w1.heap[g]? = some (.cells cells t (0, 0)) → Kept w w1 (In g (g + 1)) → Below B w0 w1 → wpList P ops Q rest a w1) : wpList P ops Q (o :: rest) a w := by
  refine wpList_store_row hgd ty x y ho g cells hx hy t old hg hi hold h1 ?_
  rw [hd]
  exact h _ (setRow_heap w g old cells t (0, 0) hg) ⟨by simp [World.setRow], fun k hk hn => setRow_other w g k cells (fun e => hn (by subst e; exact ⟨Nat.le_refl _, Nat.lt_succ_self _⟩))⟩ (below_setRow hb hB cells)
end Go.Proofs.Ytecndndpjekjbaa.S

/- Steps of regions that draw their order: a box made, a struct stored, a whole array loaded; words that are read. No condition beyond those in the statements. -/
set_option linter.unusedVariables false
set_option linter.unusedSimpArgs false
namespace Go.Proofs.Ytecndndpjekjbaa.S
open Go Go.RowKit Go.Proofs.YtecndndpjekjbaaW.PrintWords Go.Proofs.YtecndndpjekjbaaW.PrintLast Go.Proofs.YtecndndpjekjbaaW.PrintMore Go.Proofs.Ytecndndpjekjbaa.Base

theorem box_stepK {P : Program} {ops : Array Oper} {Q : Exit → Act → World → Prop} {oi : Oper} {N : Option Tmp} {a : Act} {W : World} {K : Act → World → Prop} {cs : Array Value} {t : TypeId} (hw : Region.wanted oi (yielded ops a.tmps) = true) (hN : oi.dst = N)
    (hrun : (execOp a.eval oi).run P W = .ok (.value (.pointer (some ⟨W.heap.size, 0, none⟩))) (W.alloc (.cells cs t (0, 0))))
    (h : ∀ g, g = W.heap.size → ∀ w1, w1.heap[g]? = some (.cells cs t (0, 0)) → Below W.heap.size W w1 → K (a.put N (.pointer (some ⟨g, 0, none⟩))) w1) : if Region.wanted oi (yielded ops a.tmps) = true then Oper.wp P oi a W K Q else K (a.put N undef) W :=
  value_ hw hN hrun (h _ rfl _ (blk_new W _) (below_alloc (Below.refl _ _) _))
theorem row_stepK {P : Program} {ops : Array Oper} {Q : Exit → Act → World → Prop} {o : Oper} {a : Act} {w w0 : World} {B : Nat} {K : Act → World → Prop} (hw : Region.wanted o (yielded ops a.tmps) = true) (ty : TypeId) (x y : Operand) (ho : o.op = .store ty x y)
    (g : Nat) (cells : Array Value) (hx : a.eval x = .pointer (some ⟨g, 0, none⟩)) (hy : a.eval y = .agg cells)
    (t : TypeId) (old : Array Value) (hg : w.heap[g]? = some (.cells old t (0, 0))) (hi : (P.info? ty).map (·.size) = some cells.size)
    (hold : old.size = cells.size) (h1 : cells.all (·.oneCell') = true) (hd : o.dst = none) (hb : Below B w0 w) (hB : B ≤ g)
    (h : ∀ w1 : World, w1.heap[g]? = some (.cells cells t (0, 0)) → Kept w w1 (In g (g + 1)) → Below B w0 w1 → K a w1) : if Region.wanted o (yielded ops a.tmps) = true then Oper.wp P o a w K Q else K (a.put none undef) w := by
  rw [if_pos hw]
  refine wp_store_row ty x y ho g cells hx hy t old hg hi hold h1 ?_
  rw [hd]
  exact h _ (setRow_heap w g old cells t (0, 0) hg) ⟨by simp [World.setRow], fun k hk hn => setRow_other w g k cells (fun e => hn (by subst e; exact ⟨Nat.le_refl _, Nat.lt_succ_self _⟩))⟩ (below_setRow hb hB cells)
theorem load_row_runK {P : Program} {o : Oper} {a : Act} (ty : TypeId) (x : Operand) (ho : o.op = .load ty x) (g : Nat) (hx : a.eval x = .pointer (some ⟨g, 0, none⟩)) {w : World} (t : TypeId) (cs : Array Value) (fr : Nat × Nat) (d : TypeDesc) (hg : w.heap[g]? = some (.cells cs t fr))
    (hu : P.underlying ty = some d) (hd : (match d with | .struct _ | .array _ _ => true | _ => false) = true) (hi : (P.info? ty).map (·.size) = some cs.size) : (execOp a.eval o).run P w = .ok (.value (.agg cs)) w := by
  unfold execOp
  simp only [ho, hx, Instr.loadAt, Instr.sureAddr, Sem.run_bind, Sem.run_pure, Result.andThen_ok, run_loadVar_row w g t ty cs fr d hg hu hd hi]
theorem word_at {w : World} {A : Option Addr} {ls : List (List Int)} (h : Kd.C (Kd.slice 5 (Kd.int .u8)) w A ls.length ls) (i : Nat) (hi : i < ls.length) : ∃ ad A0 c0, A = some ad ∧ w.cell? (ad.add i) = some (.slice A0 (ls[i]!).length c0) ∧ (ls[i]!).length ≤ c0 ∧ (Kd.int .u8).C w A0 (ls[i]!).length (ls[i]!) := by
  rw [getElem!_pos ls i hi]
  obtain ⟨ad, c, e, _, hK, hc0⟩ := Kd.C_get h ([] : List Int) (i : Int) (by omega) (by omega)
  have hc : ∀ j u, c[j]? = some u → w.cell? (ad.add (i * 1 + j)) = some u := hc0
  rw [Int.toNat_natCast, List.getD_eq_getElem?_getD, List.getElem?_eq_getElem hi, Option.getD_some] at hK
  obtain ⟨A0, c0, rfl, l0, g0⟩ := hK
  exact ⟨ad, A0, c0, e, by have hq := hc 0 _ rfl; rwa [Nat.mul_one, Nat.add_zero] at hq, l0, g0⟩
theorem byte_at {w : World} {A : Option Addr} {n : Nat} {x : Int} (h : (Kd.int .u8).C w A n [x]) : ∃ ad, A = some ad ∧ w.cell? ad = some (.int .u8 x) := by
  have hn : n = 1 := h.1.symm
  subst hn
  obtain ⟨ad, e, hc⟩ := Kd.at_int h 0 (by omega) (by omega)
  exact ⟨ad, e, by have h2 : w.cell? (ad.add 0) = _ := hc; rw [Addr.add_zero'] at h2; exact h2⟩
theorem AR.grow {base lo hi lo2 hi2 : Nat} {w : World} {A : Option Addr} {ls : List (List Int)} (h : AR base w lo hi A ls) (ha : lo2 ≤ lo) (hb : hi ≤ hi2) : AR base w lo2 hi2 A ls := by
  refine ⟨h.1, h.2.imp id ?_⟩
  rintro ⟨ad, vs, hA, hg, hr, hin, hap⟩
  exact ⟨ad, vs, hA, ⟨by omega, by omega⟩, hr, fun i k hi hk => ⟨⟨by have := (hin i k hi hk).1; omega, by have := (hin i k hi hk).1; omega⟩, (hin i k hi hk).2⟩, hap⟩
theorem word_own {base lo hi : Nat} {w : World} {A : Option Addr} {ls : List (List Int)} (h : AR base w lo hi A ls) (i : Nat) (hi_ : i < ls.length) : ∃ ad B d, A = some ad ∧ w.cell? (ad.add i) = some (.slice B (ls[i]!).length d) ∧ Kd.R (Kd.int .u8) 5 w base (In lo hi) (.slice B (ls[i]!).length d) (ls[i]!) := by
  rw [getElem!_pos ls i hi_]
  rcases h.2 with rfl | ⟨ad, vs, rfl, hg, hr, hin, hap⟩
  · simp at hi_
  obtain ⟨hc, hR⟩ := hr i hi_
  obtain ⟨B, d, hv⟩ := Kd.R_slice hR
  rw [hv] at hR hc
  exact ⟨ad, B, d, rfl, hc, Kd.R_mono hR (fun k hk => (hin i k hi_ (by rw [hv]; exact hk.symm)).1)⟩
theorem below_keptIn {w W0 W W1 : World} {n a b : Nat} (h : Below W0.heap.size W0 W) (hk : Kept W W1 (In a b)) (ha : W0.heap.size ≤ a) (e1 : Below n w W) (e2 : Below n w W1) : Below W0.heap.size W0 W1 :=
  ⟨e2.os.trans (e1.os.symm.trans h.os), e2.tape.trans (e1.tape.symm.trans h.tape), e2.output.trans (e1.output.symm.trans h.output), Nat.le_trans h.size hk.1, fun k hk2 => (hk.2 k (Nat.lt_of_lt_of_le hk2 h.size) (fun h3 => by unfold In at h3; omega)).trans (h.block k hk2)⟩
theorem AR.lower {base base2 lo hi : Nat} {w : World} {A : Option Addr} {ls : List (List Int)} (h : AR base w lo hi A ls) (hb : base2 ≤ base) : AR base2 w lo hi A ls := by
  refine ⟨h.1, h.2.imp id ?_⟩
  rintro ⟨ad, vs, hA, hg, hr, hin, hap⟩
  exact ⟨ad, vs, hA, hg, fun i hi => ⟨(hr i hi).1, Kd.R_lower (hr i hi).2 hb⟩, hin, hap⟩
end Go.Proofs.Ytecndndpjekjbaa.S

/- The walk over impl.UnpackProof: what it answers, way by way. No condition beyond those in the statements. -/
set_option linter.unusedVariables false
set_option linter.unusedSimpArgs false
namespace Go.Proofs.Ytecndndpjekjbaa.S
open Go Go.RowKit Go.Proofs.YtecndndpjekjbaaW.PrintWords Go.Proofs.YtecndndpjekjbaaW.PrintLast Go.Proofs.YtecndndpjekjbaaW.PrintMore Go.Proofs.Ytecndndpjekjbaa.Base
attribute [local go_sem] max2_int min2_int max_two min_two max_three min_three max_four min_four

set_option maxHeartbeats 80000000 in
set_option maxRecDepth 100000 in
theorem impl_UnpackProof_A (ku : Nat) (A0 : Option Addr) (c0 : Nat) (l0 : List Int) (q0 q1 : Int) (W : List (List Int)) (w : World) (hr0 : Kd.C (Kd.int .u8) w A0 l0.length l0) (hc0 : l0.length ≤ c0) (h_u : impl_UnpackWords.f ku l0 = some (q0, q1, W)) (h_n : W.length < 2) :
    Calls Try.prog 38 #[.slice A0 l0.length c0] w fun e w' => ∃ A c, e = .returned (.agg #[.int .i64 5, .int .i64 0, .int .i64 0, .slice A ([] : List (List Int)).length c]) ∧ ([] : List (List Int)).length ≤ c ∧ AR w.heap.size w' w.heap.size w'.heap.size A ([] : List (List Int)) ∧ Below w.heap.size w w' := by
  have hu1_ := Try.underlying43
  have hu2_ := Try.underlying41
  have hu3_ := Try.underlying81
  have HR0 := Aside0.mk hr0
  have HC0 := Aside0.mk hc0
  have H_u := Aside0.mk h_u
  have H_n := Aside0.mk h_n
  have HB := Aside0.mk (Below.refl w.heap.size w)
  have ZZ := Aside0.mk (Nat.le_refl w.heap.size)
  have hfd_2 := fun (a0 a1 a2 : Value) (w : World) => (show (Instr.field 81 (.agg #[a0, a1, a2]) 2).run Try.prog w = .ok a2 w from by kernel_rfl)
  have cn0_ : decide ((W.length : Int) < 2) = true := decide_eq_true (by omega)
  have cn1_ : decide (W.length < 2) = true := decide_eq_true h_n
  clear hr0 hc0 h_u h_n
  go_enter Try.func38, Try.ntmps38
  go_wp2_with (first | ((with_reducible refine gate_dst (N := 2) rfl ?_); refine hold_here ?_))
  refine hold_go ?_
  refine box_event (N := 2) (cs := #[.int .i64 0, .int .i64 0, .int .i64 0, .slice none 0 0]) (t := 43) ?hgb rfl ?hrb ?_
  case hgb => rfl
  case hrb => first | (go_simp; done) | (go_simp; rfl)
  intro g2_ hg w1_ hbox hb
  replace HB := Aside0.mk (below_step HB.out hb)
  replace ZZ := Aside0.mk (And.intro ZZ.out (show w.heap.size ≤ w1_.heap.size from hb.size))
  have BK2 := Aside0.mk hbox
  replace ZZ := Aside0.mk (And.intro ZZ.out (And.intro (show g2_ = w.heap.size from hg) (show g2_ < w1_.heap.size from blk_lt hbox)))
  clear hb hbox hg
  go_wp2_with (first | (go_at_call 74; refine hold_here ?_))
  refine hold_go ?_
  refine (impl_UnpackWords.calls _ A0 c0 l0 q0 q1 W _ ?s1 ?s2 H_u.out).mono ?_
  case s1 => exact Kd.C_below HR0.out HB.out
  case s2 => exact HC0.out
  rintro e w2_ ⟨v, rfl, ho, hb⟩
  replace BK2 := Aside0.mk (blk_below BK2.out hb)
  replace HB := Aside0.mk (below_step HB.out hb)
  replace ZZ := Aside0.mk (And.intro ZZ.out (show w1_.heap.size ≤ w2_.heap.size from hb.size))
  obtain ⟨A_WS, c_WS, ev_, hc_WS, hA_WS⟩ := AR_of_S (base := w.heap.size) ho (show w.heap.size ≤ w1_.heap.size from (by have h_ := ZZ.out; omega))
  subst ev_
  have HC_WS := Aside0.mk hc_WS
  have WS := Aside0.mk (show AR w.heap.size w2_ w1_.heap.size w2_.heap.size A_WS W from hA_WS)
  clear hc_WS hA_WS ho
  clear hb
  go_wp2_with (first | ((with_reducible refine gate_store (t := 43) (p := 2) (v := .tmp 25) rfl ?_); refine hold_here ?_))
  refine hold_go ?_
  refine row_store rfl 43 (.tmp 2) (.tmp 25) rfl g2_ #[.int .i64 5, .int .i64 0, .int .i64 0, .slice none 0 0] rfl ?hy 43 _ BK2.out ?hi ?ho ?h1 rfl HB.out (show w.heap.size ≤ g2_ from (by have h_ := ZZ.out; omega)) ?_
  case hy => rfl
  case hi => kernel_rfl
  case ho => rfl
  case h1 => first | rfl | (simp [Value.oneCell']; done) | (go_simp; done)
  intro w3_ bo hk hb2
  clear BK2
  replace WS := Aside0.mk (AR.kept WS.out hk (by have h_ := ZZ.out; omega))
  replace HB := Aside0.mk hb2
  replace ZZ := Aside0.mk (And.intro ZZ.out (show w2_.heap.size ≤ w3_.heap.size from hk.1))
  have BK2 := Aside0.mk bo
  clear bo hk hb2
  go_wp2
  refine bodyPost_ret (results_cell_row rfl _ _ g2_ 43 #[.int .i64 5, .int .i64 0, .int .i64 0, .slice none 0 0] (0, 0) _ rfl BK2.out Try.underlying43 rfl (by kernel_rfl)) rfl ?_
  exact ⟨none, 0, rfl, Nat.le_refl _, AR.nil _ _ _ _ _, HB.out⟩
set_option maxHeartbeats 80000000 in
set_option maxRecDepth 100000 in
theorem impl_UnpackProof_B (ku : Nat) (A0 : Option Addr) (c0 : Nat) (l0 : List Int) (q0 q1 : Int) (W : List (List Int)) (w : World) (hr0 : Kd.C (Kd.int .u8) w A0 l0.length l0) (hc0 : l0.length ≤ c0) (h_u : impl_UnpackWords.f ku l0 = some (q0, q1, W)) (h_n : 2 ≤ W.length) (h_b : W[0]!.length ≠ 1) :
    Calls Try.prog 38 #[.slice A0 l0.length c0] w fun e w' => ∃ A c, e = .returned (.agg #[.int .i64 5, .int .i64 0, .int .i64 0, .slice A ([] : List (List Int)).length c]) ∧ ([] : List (List Int)).length ≤ c ∧ AR w.heap.size w' w.heap.size w'.heap.size A ([] : List (List Int)) ∧ Below w.heap.size w w' := by
  have hu1_ := Try.underlying43
  have hu2_ := Try.underlying41
  have hu3_ := Try.underlying81
  have HR0 := Aside0.mk hr0
  have HC0 := Aside0.mk hc0
  have H_u := Aside0.mk h_u
  have H_n := Aside0.mk h_n
  have H_b := Aside0.mk h_b
  have HB := Aside0.mk (Below.refl w.heap.size w)
  have ZZ := Aside0.mk (Nat.le_refl w.heap.size)
  have hfd_2 := fun (a0 a1 a2 : Value) (w : World) => (show (Instr.field 81 (.agg #[a0, a1, a2]) 2).run Try.prog w = .ok a2 w from by kernel_rfl)
  have cn0_ : decide ((W.length : Int) < 2) = false := decide_eq_false (by omega)
  have cn1_ : decide (W.length < 2) = false := decide_eq_false (by omega)
  have cn2_ : (0 < W.length) = True := eq_true (by omega)
  have cn3_ : (1 < W.length) = True := eq_true (by omega)
  have cn4_ : ((0 : Int) < (W.length : Int)) = True := eq_true (by omega)
  have cn5_ : ((1 : Int) < (W.length : Int)) = True := eq_true (by omega)
  have cn6_ : ((2 : Int) ≤ (W.length : Int)) = True := eq_true (by omega)
  have cn7_ : (2 ≤ W.length) = True := eq_true (by omega)
  clear hr0 hc0 h_u h_n h_b
  go_enter Try.func38, Try.ntmps38
  go_wp2_with (first | ((with_reducible refine gate_dst (N := 2) rfl ?_); refine hold_here ?_))
  refine hold_go ?_
  refine box_event (N := 2) (cs := #[.int .i64 0, .int .i64 0, .int .i64 0, .slice none 0 0]) (t := 43) ?hgb rfl ?hrb ?_
  case hgb => rfl
  case hrb => first | (go_simp; done) | (go_simp; rfl)
  intro g2_ hg w1_ hbox hb
  replace HB := Aside0.mk (below_step HB.out hb)
  replace ZZ := Aside0.mk (And.intro ZZ.out (show w.heap.size ≤ w1_.heap.size from hb.size))
  have BK2 := Aside0.mk hbox
  replace ZZ := Aside0.mk (And.intro ZZ.out (And.intro (show g2_ = w.heap.size from hg) (show g2_ < w1_.heap.size from blk_lt hbox)))
  clear hb hbox hg
  go_wp2_with (first | (go_at_call 74; refine hold_here ?_))
  refine hold_go ?_
  refine (impl_UnpackWords.calls _ A0 c0 l0 q0 q1 W _ ?s1 ?s2 H_u.out).mono ?_
  case s1 => exact Kd.C_below HR0.out HB.out
  case s2 => exact HC0.out
  rintro e w2_ ⟨v, rfl, ho, hb⟩
  replace BK2 := Aside0.mk (blk_below BK2.out hb)
  replace HB := Aside0.mk (below_step HB.out hb)
  replace ZZ := Aside0.mk (And.intro ZZ.out (show w1_.heap.size ≤ w2_.heap.size from hb.size))
  have hfo_ := Kd.S_form ho (by have := H_n.out; omega)
  obtain ⟨A_WS, c_WS, ev_, hc_WS, hA_WS⟩ := AR_of_S (base := w.heap.size) ho (show w.heap.size ≤ w1_.heap.size from (by have h_ := ZZ.out; omega))
  subst ev_
  have HC_WS := Aside0.mk hc_WS
  have WS := Aside0.mk (show AR w.heap.size w2_ w1_.heap.size w2_.heap.size A_WS W from hA_WS)
  clear hc_WS hA_WS ho
  obtain ⟨gw_, cw_, evw_, _⟩ := hfo_
  injection evw_ with eA_ _ eC_
  subst eA_ eC_
  clear hb
  obtain ⟨ad_, B0_, d0_, eA_, hx0_, hl0_, hi0_⟩ := word_at (Kd.F_now (AR.foot WS.out)) 0 (by have := H_n.out; omega)
  obtain ⟨ad2_, B1_, d1_, eA2_, hx1_, hl1_, hi1_⟩ := word_at (Kd.F_now (AR.foot WS.out)) 1 (by have := H_n.out; omega)
  obtain rfl := Option.some.inj eA_
  obtain rfl := Option.some.inj eA2_
  rw [Addr.add_zero'] at hx0_
  replace hx1_ := (show w2_.cell? ⟨gw_, 1, none⟩ = _ from hx1_)
  obtain ⟨n0_, hn0_⟩ : ∃ n, W[0]!.length = n := ⟨_, rfl⟩
  rw [hn0_] at hx0_
  have cb_ : ((n0_ : Int) != 1) = true := bne_iff_ne.2 (by have := H_b.out; omega)
  clear hn0_ hl0_ hi0_ hl1_ hi1_ hx1_
  go_wp2_with (first | ((with_reducible refine gate_store (t := 43) (p := 2) (v := .tmp 25) rfl ?_); refine hold_here ?_))
  refine hold_go ?_
  refine row_store rfl 43 (.tmp 2) (.tmp 25) rfl g2_ #[.int .i64 5, .int .i64 0, .int .i64 0, .slice none 0 0] rfl ?hy 43 _ BK2.out ?hi ?ho ?h1 rfl HB.out (show w.heap.size ≤ g2_ from (by have h_ := ZZ.out; omega)) ?_
  case hy => rfl
  case hi => kernel_rfl
  case ho => rfl
  case h1 => first | rfl | (simp [Value.oneCell']; done) | (go_simp; done)
  intro w3_ bo hk hb2
  clear BK2
  replace WS := Aside0.mk (AR.kept WS.out hk (by have h_ := ZZ.out; omega))
  replace HB := Aside0.mk hb2
  replace ZZ := Aside0.mk (And.intro ZZ.out (show w2_.heap.size ≤ w3_.heap.size from hk.1))
  have BK2 := Aside0.mk bo
  clear bo hk hb2
  go_wp2
  refine bodyPost_ret (results_cell_row rfl _ _ g2_ 43 #[.int .i64 5, .int .i64 0, .int .i64 0, .slice none 0 0] (0, 0) _ rfl BK2.out Try.underlying43 rfl (by kernel_rfl)) rfl ?_
  exact ⟨none, 0, rfl, Nat.le_refl _, AR.nil _ _ _ _ _, HB.out⟩
set_option maxHeartbeats 80000000 in
set_option maxRecDepth 100000 in
theorem impl_UnpackProof_C (ku : Nat) (A0 : Option Addr) (c0 : Nat) (l0 : List Int) (q0 q1 : Int) (W : List (List Int)) (x : Int) (w : World) (hr0 : Kd.C (Kd.int .u8) w A0 l0.length l0) (hc0 : l0.length ≤ c0) (h_u : impl_UnpackWords.f ku l0 = some (q0, q1, W)) (h_n : 2 ≤ W.length) (h_x : W[0]! = [x]) (h_b : W[1]!.length ≠ 1) :
    Calls Try.prog 38 #[.slice A0 l0.length c0] w fun e w' => ∃ A c, e = .returned (.agg #[.int .i64 5, .int .i64 0, .int .i64 0, .slice A ([] : List (List Int)).length c]) ∧ ([] : List (List Int)).length ≤ c ∧ AR w.heap.size w' w.heap.size w'.heap.size A ([] : List (List Int)) ∧ Below w.heap.size w w' := by
  have hu1_ := Try.underlying43
  have hu2_ := Try.underlying41
  have hu3_ := Try.underlying81
  have HR0 := Aside0.mk hr0
  have HC0 := Aside0.mk hc0
  have H_u := Aside0.mk h_u
  have H_n := Aside0.mk h_n
  have H_x := Aside0.mk h_x
  have H_b := Aside0.mk h_b
  have HB := Aside0.mk (Below.refl w.heap.size w)
  have ZZ := Aside0.mk (Nat.le_refl w.heap.size)
  have hfd_2 := fun (a0 a1 a2 : Value) (w : World) => (show (Instr.field 81 (.agg #[a0, a1, a2]) 2).run Try.prog w = .ok a2 w from by kernel_rfl)
  have cn0_ : decide ((W.length : Int) < 2) = false := decide_eq_false (by omega)
  have cn1_ : decide (W.length < 2) = false := decide_eq_false (by omega)
  have cn2_ : (0 < W.length) = True := eq_true (by omega)
  have cn3_ : (1 < W.length) = True := eq_true (by omega)
  have cn4_ : ((0 : Int) < (W.length : Int)) = True := eq_true (by omega)
  have cn5_ : ((1 : Int) < (W.length : Int)) = True := eq_true (by omega)
  have cn6_ : ((2 : Int) ≤ (W.length : Int)) = True := eq_true (by omega)
  have cn7_ : (2 ≤ W.length) = True := eq_true (by omega)
  clear hr0 hc0 h_u h_n h_x h_b
  go_enter Try.func38, Try.ntmps38
  go_wp2_with (first | ((with_reducible refine gate_dst (N := 2) rfl ?_); refine hold_here ?_))
  refine hold_go ?_
  refine box_event (N := 2) (cs := #[.int .i64 0, .int .i64 0, .int .i64 0, .slice none 0 0]) (t := 43) ?hgb rfl ?hrb ?_
  case hgb => rfl
  case hrb => first | (go_simp; done) | (go_simp; rfl)
  intro g2_ hg w1_ hbox hb
  replace HB := Aside0.mk (below_step HB.out hb)
  replace ZZ := Aside0.mk (And.intro ZZ.out (show w.heap.size ≤ w1_.heap.size from hb.size))
  have BK2 := Aside0.mk hbox
  replace ZZ := Aside0.mk (And.intro ZZ.out (And.intro (show g2_ = w.heap.size from hg) (show g2_ < w1_.heap.size from blk_lt hbox)))
  clear hb hbox hg
  go_wp2_with (first | (go_at_call 74; refine hold_here ?_))
  refine hold_go ?_
  refine (impl_UnpackWords.calls _ A0 c0 l0 q0 q1 W _ ?s1 ?s2 H_u.out).mono ?_
  case s1 => exact Kd.C_below HR0.out HB.out
  case s2 => exact HC0.out
  rintro e w2_ ⟨v, rfl, ho, hb⟩
  replace BK2 := Aside0.mk (blk_below BK2.out hb)
  replace HB := Aside0.mk (below_step HB.out hb)
  replace ZZ := Aside0.mk (And.intro ZZ.out (show w1_.heap.size ≤ w2_.heap.size from hb.size))
  have hfo_ := Kd.S_form ho (by have := H_n.out; omega)
  obtain ⟨A_WS, c_WS, ev_, hc_WS, hA_WS⟩ := AR_of_S (base := w.heap.size) ho (show w.heap.size ≤ w1_.heap.size from (by have h_ := ZZ.out; omega))
  subst ev_
  have HC_WS := Aside0.mk hc_WS
  have WS := Aside0.mk (show AR w.heap.size w2_ w1_.heap.size w2_.heap.size A_WS W from hA_WS)
  clear hc_WS hA_WS ho
  obtain ⟨gw_, cw_, evw_, _⟩ := hfo_
  injection evw_ with eA_ _ eC_
  subst eA_ eC_
  clear hb
  obtain ⟨ad_, B0_, d0_, eA_, hx0_, hl0_, hi0_⟩ := word_at (Kd.F_now (AR.foot WS.out)) 0 (by have := H_n.out; omega)
  obtain ⟨ad2_, B1_, d1_, eA2_, hx1_, hl1_, hi1_⟩ := word_at (Kd.F_now (AR.foot WS.out)) 1 (by have := H_n.out; omega)
  obtain rfl := Option.some.inj eA_
  obtain rfl := Option.some.inj eA2_
  rw [Addr.add_zero'] at hx0_
  replace hx1_ := (show w2_.cell? ⟨gw_, 1, none⟩ = _ from hx1_)
  rw [H_x.out] at hx0_
  obtain ⟨n1_, hn1_⟩ : ∃ n, W[1]!.length = n := ⟨_, rfl⟩
  rw [hn1_] at hx1_
  have cb_ : ((n1_ : Int) != 1) = true := bne_iff_ne.2 (by have := H_b.out; omega)
  simp only [List.length_cons, List.length_nil, Nat.zero_add] at hx0_
  clear hn1_ hl0_ hi0_ hl1_ hi1_
  go_wp2_with (first | ((with_reducible refine gate_store (t := 43) (p := 2) (v := .tmp 25) rfl ?_); refine hold_here ?_))
  refine hold_go ?_
  refine row_store rfl 43 (.tmp 2) (.tmp 25) rfl g2_ #[.int .i64 5, .int .i64 0, .int .i64 0, .slice none 0 0] rfl ?hy 43 _ BK2.out ?hi ?ho ?h1 rfl HB.out (show w.heap.size ≤ g2_ from (by have h_ := ZZ.out; omega)) ?_
  case hy => rfl
  case hi => kernel_rfl
  case ho => rfl
  case h1 => first | rfl | (simp [Value.oneCell']; done) | (go_simp; done)
  intro w3_ bo hk hb2
  clear BK2
  replace WS := Aside0.mk (AR.kept WS.out hk (by have h_ := ZZ.out; omega))
  replace HB := Aside0.mk hb2
  replace ZZ := Aside0.mk (And.intro ZZ.out (show w2_.heap.size ≤ w3_.heap.size from hk.1))
  have BK2 := Aside0.mk bo
  clear bo hk hb2
  go_wp2
  refine bodyPost_ret (results_cell_row rfl _ _ g2_ 43 #[.int .i64 5, .int .i64 0, .int .i64 0, .slice none 0 0] (0, 0) _ rfl BK2.out Try.underlying43 rfl (by kernel_rfl)) rfl ?_
  exact ⟨none, 0, rfl, Nat.le_refl _, AR.nil _ _ _ _ _, HB.out⟩
set_option maxHeartbeats 80000000 in
set_option maxRecDepth 100000 in
theorem impl_UnpackProof_D (ku : Nat) (A0 : Option Addr) (c0 : Nat) (l0 : List Int) (q0 q1 : Int) (W : List (List Int)) (x : Int) (y : Int) (ps : List (List Int)) (b : Bool) (kp : Nat) (w : World) (hr0 : Kd.C (Kd.int .u8) w A0 l0.length l0) (hc0 : l0.length ≤ c0) (h_u : impl_UnpackWords.f ku l0 = some (q0, q1, W)) (h_n : 2 ≤ W.length) (h_x : W[0]! = [x]) (h_y : W[1]! = [y]) (h_bx : 0 ≤ x ∧ x ≤ 255) (h_by : 0 ≤ y ∧ y ≤ 255) (h_d : W.drop 2 = ps) (h_p : impl_isProof.f kp x y ps = some b) :
    Calls Try.prog 38 #[.slice A0 l0.length c0] w fun e w' => ∃ A c, e = .returned (.agg #[.int .i64 (cond b 0 5), .int .i64 (cond b x 0), .int .i64 (cond b y 0), .slice A (cond b ps []).length c]) ∧ (cond b ps []).length ≤ c ∧ AR w.heap.size w' w.heap.size w'.heap.size A (cond b ps []) ∧ Below w.heap.size w w' := by
  have hu1_ := Try.underlying43
  have hu2_ := Try.underlying41
  have hu3_ := Try.underlying81
  have HR0 := Aside0.mk hr0
  have HC0 := Aside0.mk hc0
  have H_u := Aside0.mk h_u
  have H_n := Aside0.mk h_n
  have H_x := Aside0.mk h_x
  have H_y := Aside0.mk h_y
  have H_bx := Aside0.mk h_bx
  have H_by := Aside0.mk h_by
  have H_d := Aside0.mk h_d
  have H_p := Aside0.mk h_p
  have HB := Aside0.mk (Below.refl w.heap.size w)
  have ZZ := Aside0.mk (Nat.le_refl w.heap.size)
  have hfd_2 := fun (a0 a1 a2 : Value) (w : World) => (show (Instr.field 81 (.agg #[a0, a1, a2]) 2).run Try.prog w = .ok a2 w from by kernel_rfl)
  have cn0_ : decide ((W.length : Int) < 2) = false := decide_eq_false (by omega)
  have cn1_ : decide (W.length < 2) = false := decide_eq_false (by omega)
  have cn2_ : (0 < W.length) = True := eq_true (by omega)
  have cn3_ : (1 < W.length) = True := eq_true (by omega)
  have cn4_ : ((0 : Int) < (W.length : Int)) = True := eq_true (by omega)
  have cn5_ : ((1 : Int) < (W.length : Int)) = True := eq_true (by omega)
  have cn6_ : ((2 : Int) ≤ (W.length : Int)) = True := eq_true (by omega)
  have cn7_ : (2 ≤ W.length) = True := eq_true (by omega)
  clear hr0 hc0 h_u h_n h_x h_y h_bx h_by h_d h_p
  go_enter Try.func38, Try.ntmps38
  go_wp2_with (first | ((with_reducible refine gate_dst (N := 2) rfl ?_); refine hold_here ?_))
  refine hold_go ?_
  refine box_event (N := 2) (cs := #[.int .i64 0, .int .i64 0, .int .i64 0, .slice none 0 0]) (t := 43) ?hgb rfl ?hrb ?_
  case hgb => rfl
  case hrb => first | (go_simp; done) | (go_simp; rfl)
  intro g2_ hg w1_ hbox hb
  replace HB := Aside0.mk (below_step HB.out hb)
  replace ZZ := Aside0.mk (And.intro ZZ.out (show w.heap.size ≤ w1_.heap.size from hb.size))
  have BK2 := Aside0.mk hbox
  replace ZZ := Aside0.mk (And.intro ZZ.out (And.intro (show g2_ = w.heap.size from hg) (show g2_ < w1_.heap.size from blk_lt hbox)))
  clear hb hbox hg
  go_wp2_with (first | (go_at_call 74; refine hold_here ?_))
  refine hold_go ?_
  refine (impl_UnpackWords.calls _ A0 c0 l0 q0 q1 W _ ?s1 ?s2 H_u.out).mono ?_
  case s1 => exact Kd.C_below HR0.out HB.out
  case s2 => exact HC0.out
  rintro e w2_ ⟨v, rfl, ho, hb⟩
  replace BK2 := Aside0.mk (blk_below BK2.out hb)
  replace HB := Aside0.mk (below_step HB.out hb)
  replace ZZ := Aside0.mk (And.intro ZZ.out (show w1_.heap.size ≤ w2_.heap.size from hb.size))
  have hfo_ := Kd.S_form ho (by have := H_n.out; omega)
  obtain ⟨A_WS, c_WS, ev_, hc_WS, hA_WS⟩ := AR_of_S (base := w.heap.size) ho (show w.heap.size ≤ w1_.heap.size from (by have h_ := ZZ.out; omega))
  subst ev_
  have HC_WS := Aside0.mk hc_WS
  have WS := Aside0.mk (show AR w.heap.size w2_ w1_.heap.size w2_.heap.size A_WS W from hA_WS)
  clear hc_WS hA_WS ho
  obtain ⟨gw_, cw_, evw_, _⟩ := hfo_
  injection evw_ with eA_ _ eC_
  subst eA_ eC_
  clear hb
  obtain ⟨ad_, B0_, d0_, eA_, hx0_, hl0_, hi0_⟩ := word_at (Kd.F_now (AR.foot WS.out)) 0 (by have := H_n.out; omega)
  obtain ⟨ad2_, B1_, d1_, eA2_, hx1_, hl1_, hi1_⟩ := word_at (Kd.F_now (AR.foot WS.out)) 1 (by have := H_n.out; omega)
  obtain rfl := Option.some.inj eA_
  obtain rfl := Option.some.inj eA2_
  rw [Addr.add_zero'] at hx0_
  replace hx1_ := (show w2_.cell? ⟨gw_, 1, none⟩ = _ from hx1_)
  rw [H_x.out] at hx0_ hi0_
  rw [H_y.out] at hx1_ hi1_
  simp only [List.length_cons, List.length_nil, Nat.zero_add] at hx0_ hx1_ hi0_ hi1_
  obtain ⟨b0_, e0_, hv0_⟩ := byte_at hi0_
  obtain ⟨b1_, e1_, hv1_⟩ := byte_at hi1_
  subst e0_ e1_
  clear hi0_ hi1_ hl0_ hl1_
  try go_wp2_with fail
  replace BK2 := Aside0.mk (blk_drew BK2.out)
  replace WS := Aside0.mk (AR.drew WS.out)
  replace HB := Aside0.mk (below_drew1 HB.out)
  replace ZZ := Aside0.mk (And.intro ZZ.out (show w2_.heap.size ≤ w2_.drew.heap.size from Nat.le_refl _))
  refine start_ (n := 17) (S := fun w' => w'.cell? (⟨gw_, 0, none⟩) = some (.slice (some b0_) 1 d0_) ∧ w'.cell? (⟨gw_, 1, none⟩) = some (.slice (some b1_) 1 d1_) ∧ w'.cell? (b0_) = some (.int .u8 x) ∧ w'.cell? (b1_) = some (.int .u8 y)) (ds := [16]) #[false, false, false, false, false, false, false, false, false, false, false, false, false, false, false, false, false] (by kernel_rfl) rfl rfl ⟨hx0_, hx1_, hv0_, hv1_⟩ (fun hHeld => ?_)
  generalize w2_.drew = w3_ at BK2 WS HB ZZ hHeld ⊢
  clear hx0_ hx1_ hv0_ hv1_
  have HWX := Aside0.mk (w64 (n := x) (by have := H_bx.out; omega) (by have := H_bx.out; omega))
  have HWY := Aside0.mk (w64 (n := y) (by have := H_by.out; omega) (by have := H_by.out; omega))
  have hPS_ := AR.drop WS.out 2 c_WS H_n.out HC_WS.out
  rw [H_d.out] at hPS_
  obtain ⟨A_PS, eAP_⟩ : ∃ A : Option Addr, (if c_WS = 2 then some ⟨gw_, 0, none⟩ else some ⟨gw_, 2, none⟩) = A := ⟨_, rfl⟩
  rw [show (if c_WS = 2 then some (⟨gw_, 0, none⟩ : Addr) else (some (⟨gw_, 0, none⟩ : Addr)).map (·.add 2)) = A_PS from eAP_] at hPS_
  obtain ⟨c_PS, eCP_⟩ : ∃ c, c_WS - 2 = c := ⟨_, rfl⟩
  have hdl_ := congrArg List.length H_d.out
  rw [List.length_drop] at hdl_
  have HC_PS := Aside0.mk (show ps.length ≤ c_PS by have := HC_WS.out; omega)
  have PS := Aside0.mk hPS_
  have EAP := Aside0.mk eAP_
  have ECP := Aside0.mk eCP_
  have EDL := Aside0.mk hdl_
  clear hPS_ eAP_ eCP_ hdl_ WS
  refine pure_ (i := 0) (N := some 26) (v := ?_) (a' := ?_) #[true, false, false, false, false, false, false, false, false, false, false, false, false, false, false, false, false] rfl rfl (by kernel_rfl) (fun _ _ _ h => h) (Or.inl ⟨by rfl, ?_⟩) ?_ ?_
  rotate_left
  · intro w'
    go_simp
    with_reducible rfl
  rotate_left
  · simp only [Act.put, List.setIfInBounds_toArray, List.set_cons_zero, List.set_cons_succ, i64_w, i32_w]
    rfl
  refine pure_ (i := 1) (N := some 27) (v := ?_) (a' := ?_) #[true, true, false, false, false, false, false, false, false, false, false, false, false, false, false, false, false] rfl rfl (by kernel_rfl) (fun _ _ _ h => h) (Or.inl ⟨by rfl, ?_⟩) ?_ ?_
  rotate_left
  · intro w'
    go_simp
    with_reducible rfl
  rotate_left
  · simp only [Act.put, List.setIfInBounds_toArray, List.set_cons_zero, List.set_cons_succ, i64_w, i32_w]
    rfl
  refine take_ (i := 2) (N := some 28) (v := ?_) (a' := ?_) #[true, true, true, false, false, false, false, false, false, false, false, false, false, false, false, false, false] rfl rfl (by kernel_rfl) (fun _ _ _ h => h) (Or.inl ⟨by rfl, ?_⟩) hHeld ?_ ?_
  rotate_left
  · rintro w' ⟨s0, s1, s2, s3⟩
    go_simp
    with_reducible rfl
  rotate_left
  · simp only [Act.put, List.setIfInBounds_toArray, List.set_cons_zero, List.set_cons_succ, i64_w, i32_w]
    rfl
  refine pure_ (i := 3) (N := some 29) (v := ?_) (a' := ?_) #[true, true, true, true, false, false, false, false, false, false, false, false, false, false, false, false, false] rfl rfl (by kernel_rfl) (fun _ _ _ h => h) (Or.inl ⟨by rfl, ?_⟩) ?_ ?_
  rotate_left
  · intro w'
    go_simp
    with_reducible rfl
  rotate_left
  · simp only [Act.put, List.setIfInBounds_toArray, List.set_cons_zero, List.set_cons_succ, i64_w, i32_w]
    rfl
  refine take_ (i := 4) (N := some 30) (v := ?_) (a' := ?_) #[true, true, true, true, true, false, false, false, false, false, false, false, false, false, false, false, false] rfl rfl (by kernel_rfl) (fun _ _ _ h => h) (Or.inl ⟨by rfl, ?_⟩) hHeld ?_ ?_
  rotate_left
  · rintro w' ⟨s0, s1, s2, s3⟩
    go_simp
    with_reducible rfl
  rotate_left
  · simp only [Act.put, List.setIfInBounds_toArray, List.set_cons_zero, List.set_cons_succ, i64_w, i32_w]
    rfl
  refine pure_ (i := 5) (N := some 31) (v := .int .i64 x) (a' := ?_) #[true, true, true, true, true, true, false, false, false, false, false, false, false, false, false, false, false] rfl rfl (by kernel_rfl) (fun _ _ _ h => h) (Or.inl ⟨by rfl, ?_⟩) ?_ ?_
  · intro w'
    go_simp
    first | done | (simp only [i64_w, HWX.out]; done) | rw [i64_w, HWX.out]
  rotate_left
  · simp only [Act.put, List.setIfInBounds_toArray, List.set_cons_zero, List.set_cons_succ, i64_w, i32_w]
    rfl
  refine pure_ (i := 6) (N := some 32) (v := ?_) (a' := ?_) #[true, true, true, true, true, true, true, false, false, false, false, false, false, false, false, false, false] rfl rfl (by kernel_rfl) (fun _ _ _ h => h) (Or.inl ⟨by rfl, ?_⟩) ?_ ?_
  rotate_left
  · intro w'
    go_simp
    with_reducible rfl
  rotate_left
  · simp only [Act.put, List.setIfInBounds_toArray, List.set_cons_zero, List.set_cons_succ, i64_w, i32_w]
    rfl
  refine pure_ (i := 7) (N := some 33) (v := ?_) (a' := ?_) #[true, true, true, true, true, true, true, true, false, false, false, false, false, false, false, false, false] rfl rfl (by kernel_rfl) (fun _ _ _ h => h) (Or.inl ⟨by rfl, ?_⟩) ?_ ?_
  rotate_left
  · intro w'
    go_simp
    with_reducible rfl
  rotate_left
  · simp only [Act.put, List.setIfInBounds_toArray, List.set_cons_zero, List.set_cons_succ, i64_w, i32_w]
    rfl
  refine take_ (i := 8) (N := some 34) (v := ?_) (a' := ?_) #[true, true, true, true, true, true, true, true, true, false, false, false, false, false, false, false, false] rfl rfl (by kernel_rfl) (fun _ _ _ h => h) (Or.inl ⟨by rfl, ?_⟩) hHeld ?_ ?_
  rotate_left
  · rintro w' ⟨s0, s1, s2, s3⟩
    go_simp
    with_reducible rfl
  rotate_left
  · simp only [Act.put, List.setIfInBounds_toArray, List.set_cons_zero, List.set_cons_succ, i64_w, i32_w]
    rfl
  refine pure_ (i := 9) (N := some 35) (v := ?_) (a' := ?_) #[true, true, true, true, true, true, true, true, true, true, false, false, false, false, false, false, false] rfl rfl (by kernel_rfl) (fun _ _ _ h => h) (Or.inl ⟨by rfl, ?_⟩) ?_ ?_
  rotate_left
  · intro w'
    go_simp
    with_reducible rfl
  rotate_left
  · simp only [Act.put, List.setIfInBounds_toArray, List.set_cons_zero, List.set_cons_succ, i64_w, i32_w]
    rfl
  refine take_ (i := 10) (N := some 36) (v := ?_) (a' := ?_) #[true, true, true, true, true, true, true, true, true, true, true, false, false, false, false, false, false] rfl rfl (by kernel_rfl) (fun _ _ _ h => h) (Or.inl ⟨by rfl, ?_⟩) hHeld ?_ ?_
  rotate_left
  · rintro w' ⟨s0, s1, s2, s3⟩
    go_simp
    with_reducible rfl
  rotate_left
  · simp only [Act.put, List.setIfInBounds_toArray, List.set_cons_zero, List.set_cons_succ, i64_w, i32_w]
    rfl
  refine pure_ (i := 11) (N := some 37) (v := .int .i64 y) (a' := ?_) #[true, true, true, true, true, true, true, true, true, true, true, true, false, false, false, false, false] rfl rfl (by kernel_rfl) (fun _ _ _ h => h) (Or.inl ⟨by rfl, ?_⟩) ?_ ?_
  · intro w'
    go_simp
    first | done | (simp only [i64_w, HWY.out]; done) | rw [i64_w, HWY.out]
  rotate_left
  · simp only [Act.put, List.setIfInBounds_toArray, List.set_cons_zero, List.set_cons_succ, i64_w, i32_w]
    rfl
  refine pure_ (i := 12) (N := some 38) (v := ?_) (a' := ?_) #[true, true, true, true, true, true, true, true, true, true, true, true, true, false, false, false, false] rfl rfl (by kernel_rfl) (fun _ _ _ h => h) (Or.inl ⟨by rfl, ?_⟩) ?_ ?_
  rotate_left
  · intro w'
    go_simp
    with_reducible rfl
  rotate_left
  · simp only [Act.put, List.setIfInBounds_toArray, List.set_cons_zero, List.set_cons_succ, i64_w, i32_w]
    rfl
  refine pure_ (i := 13) (N := some 39) (v := .slice A_PS ps.length c_PS) (a' := ?_) #[true, true, true, true, true, true, true, true, true, true, true, true, true, true, false, false, false] rfl rfl (by kernel_rfl) (fun _ _ _ h => h) (Or.inl ⟨by rfl, ?_⟩) ?_ ?_
  · intro w'
    go_simp
    exact ⟨EAP.out, EDL.out, ECP.out⟩
  rotate_left
  · simp only [Act.put, List.setIfInBounds_toArray, List.set_cons_zero, List.set_cons_succ, i64_w, i32_w]
    rfl
  refine pure_ (i := 14) (N := some 40) (v := ?_) (a' := ?_) #[true, true, true, true, true, true, true, true, true, true, true, true, true, true, true, false, false] rfl rfl (by kernel_rfl) (fun _ _ _ h => h) (Or.inl ⟨by rfl, ?_⟩) ?_ ?_
  rotate_left
  · intro w'
    go_simp
    with_reducible rfl
  rotate_left
  · simp only [Act.put, List.setIfInBounds_toArray, List.set_cons_zero, List.set_cons_succ, i64_w, i32_w]
    rfl
  refine one_ (i := 15) (N := some 4) #[true, true, true, true, true, true, true, true, true, true, true, true, true, true, true, true, false] rfl rfl (by kernel_rfl) (by decide) (fun K hK => ?_)
  refine box_stepK (cs := #[.int .i64 0, .int .i64 0, .slice none 0 0]) (t := 41) (by rfl) rfl ?hr ?_
  case hr => first | (go_simp; done) | (go_simp; rfl)
  intro g4_ hg w4_ hbox hb
  have hS_ : (fun w' : World => w'.cell? (⟨gw_, 0, none⟩) = some (.slice (some b0_) 1 d0_) ∧ w'.cell? (⟨gw_, 1, none⟩) = some (.slice (some b1_) 1 d1_) ∧ w'.cell? (b0_) = some (.int .u8 x) ∧ w'.cell? (b1_) = some (.int .u8 y)) w4_ := by
    obtain ⟨s0, s1, s2, s3⟩ := hHeld
    exact ⟨(hb.cell (World.block_lt_of_cell? _ _ s0)).trans s0, (hb.cell (World.block_lt_of_cell? _ _ s1)).trans s1, (hb.cell (World.block_lt_of_cell? _ _ s2)).trans s2, (hb.cell (World.block_lt_of_cell? _ _ s3)).trans s3⟩
  replace BK2 := Aside0.mk (blk_below BK2.out hb)
  replace PS := Aside0.mk (AR.below PS.out hb)
  replace HB := Aside0.mk (below_step HB.out hb)
  replace ZZ := Aside0.mk (And.intro ZZ.out (show w3_.heap.size ≤ w4_.heap.size from hb.size))
  have BK4 := Aside0.mk hbox
  replace ZZ := Aside0.mk (And.intro ZZ.out (And.intro (show g4_ = w3_.heap.size from hg) (show g4_ < w4_.heap.size from blk_lt hbox)))
  clear hb hbox hg
  refine hK.out _ _ hS_ (fun hHeld2 => ?_)
  clear hK K hHeld hS_
  have hHeld := hHeld2
  clear hHeld2
  refine norm_ (a' := ?_) ?_ ?_
  rotate_left
  · show Act.put _ (some 4) _ = _
    simp only [Act.put, List.setIfInBounds_toArray, List.set_cons_zero, List.set_cons_succ, i64_w, i32_w]
    rfl
  refine last_ (i := 16) (N := none) #[true, true, true, true, true, true, true, true, true, true, true, true, true, true, true, true, true] rfl rfl (by kernel_rfl) (by decide) (fun K hK => ?_)
  refine row_stepK (by rfl) 41 (.tmp 4) (.tmp 40) rfl g4_ #[.int .i64 x, .int .i64 y, .slice A_PS ps.length c_PS] rfl ?hy 41 _ BK4.out ?hi ?ho ?h1 rfl HB.out (show w.heap.size ≤ g4_ from (by have h_ := ZZ.out; omega)) ?_
  case hy => rfl
  case hi => kernel_rfl
  case ho => rfl
  case h1 => first | rfl | (simp [Value.oneCell']; done) | (go_simp; done)
  clear hHeld
  intro w5_ bo hk hb2
  clear BK4
  replace BK2 := Aside0.mk (blk_keptIn BK2.out hk (by have h_ := ZZ.out; omega))
  replace PS := Aside0.mk (AR.kept PS.out hk (by have h_ := ZZ.out; omega))
  replace HB := Aside0.mk hb2
  replace ZZ := Aside0.mk (And.intro ZZ.out (show w4_.heap.size ≤ w5_.heap.size from hk.1))
  have BK4 := Aside0.mk bo
  clear bo hk hb2
  refine hK.out _ _ ?_
  clear hK K
  refine done_ (by kernel_rfl) ?_
  have hz_BK4_0 : w5_.cell? ⟨g4_, 0, none⟩ = some (.int .i64 x) := (blk_cell BK4.out 0).trans rfl
  have hz_BK4_1 : w5_.cell? ⟨g4_, 1, none⟩ = some (.int .i64 y) := (blk_cell BK4.out 1).trans rfl
  have hz_BK4_2 : w5_.cell? ⟨g4_, 2, none⟩ = some (.slice A_PS ps.length c_PS) := (blk_cell BK4.out 2).trans rfl
  go_wp2_with (first | (go_at_call 63; refine hold_here ?_))
  refine hold_go ?_
  refine (impl_isProof.calls _ x y A_PS c_PS ps b _ ?s1 ?s2 H_p.out).mono ?_
  case s1 => exact Kd.F_now (AR.foot PS.out)
  case s2 => exact HC_PS.out
  rintro e w6_ ⟨rfl, hb⟩
  replace BK2 := Aside0.mk (blk_below BK2.out hb)
  replace PS := Aside0.mk (AR.below PS.out hb)
  replace BK4 := Aside0.mk (blk_below BK4.out hb)
  replace HB := Aside0.mk (below_step HB.out hb)
  clear hz_BK4_0 hz_BK4_1 hz_BK4_2
  replace ZZ := Aside0.mk (And.intro ZZ.out (show w5_.heap.size ≤ w6_.heap.size from hb.size))
  clear hb
  have hz_BK4_0 : w6_.cell? ⟨g4_, 0, none⟩ = some (.int .i64 x) := (blk_cell BK4.out 0).trans rfl
  have hz_BK4_1 : w6_.cell? ⟨g4_, 1, none⟩ = some (.int .i64 y) := (blk_cell BK4.out 1).trans rfl
  have hz_BK4_2 : w6_.cell? ⟨g4_, 2, none⟩ = some (.slice A_PS ps.length c_PS) := (blk_cell BK4.out 2).trans rfl
  cases b
  · skip
    go_wp2_with (first | ((with_reducible refine gate_store (t := 43) (p := 2) (v := .tmp 44) rfl ?_); refine hold_here ?_))
    refine hold_go ?_
    refine row_store rfl 43 (.tmp 2) (.tmp 44) rfl g2_ #[.int .i64 5, .int .i64 0, .int .i64 0, .slice none 0 0] rfl ?hy 43 _ BK2.out ?hi ?ho ?h1 rfl HB.out (show w.heap.size ≤ g2_ from (by have h_ := ZZ.out; omega)) ?_
    case hy => rfl
    case hi => kernel_rfl
    case ho => rfl
    case h1 => first | rfl | (simp [Value.oneCell']; done) | (go_simp; done)
    intro w7_ bo hk hb2
    clear BK2
    replace PS := Aside0.mk (AR.kept PS.out hk (by have h_ := ZZ.out; omega))
    replace BK4 := Aside0.mk (blk_keptIn BK4.out hk (by have h_ := ZZ.out; omega))
    replace HB := Aside0.mk hb2
    clear hz_BK4_0 hz_BK4_1 hz_BK4_2
    replace ZZ := Aside0.mk (And.intro ZZ.out (show w6_.heap.size ≤ w7_.heap.size from hk.1))
    have BK2 := Aside0.mk bo
    clear bo hk hb2
    have hz_BK4_0 : w7_.cell? ⟨g4_, 0, none⟩ = some (.int .i64 x) := (blk_cell BK4.out 0).trans rfl
    have hz_BK4_1 : w7_.cell? ⟨g4_, 1, none⟩ = some (.int .i64 y) := (blk_cell BK4.out 1).trans rfl
    have hz_BK4_2 : w7_.cell? ⟨g4_, 2, none⟩ = some (.slice A_PS ps.length c_PS) := (blk_cell BK4.out 2).trans rfl
    go_wp2
    refine bodyPost_ret (results_cell_row rfl _ _ g2_ 43 #[.int .i64 5, .int .i64 0, .int .i64 0, .slice none 0 0] (0, 0) _ rfl BK2.out Try.underlying43 rfl (by kernel_rfl)) rfl ?_
    exact ⟨none, 0, rfl, Nat.le_refl _, AR.nil _ _ _ _ _, HB.out⟩
  · skip
    go_wp2_with (first | ((with_reducible refine gate_store (t := 43) (p := 2) (v := .tmp 46) rfl ?_); refine hold_here ?_))
    refine hold_go ?_
    refine row_store rfl 43 (.tmp 2) (.tmp 46) rfl g2_ #[.int .i64 0, .int .i64 x, .int .i64 y, .slice A_PS ps.length c_PS] rfl ?hy 43 _ BK2.out ?hi ?ho ?h1 rfl HB.out (show w.heap.size ≤ g2_ from (by have h_ := ZZ.out; omega)) ?_
    case hy => rfl
    case hi => kernel_rfl
    case ho => rfl
    case h1 => first | rfl | (simp [Value.oneCell']; done) | (go_simp; done)
    intro w7_ bo hk hb2
    clear BK2
    replace PS := Aside0.mk (AR.kept PS.out hk (by have h_ := ZZ.out; omega))
    replace BK4 := Aside0.mk (blk_keptIn BK4.out hk (by have h_ := ZZ.out; omega))
    replace HB := Aside0.mk hb2
    clear hz_BK4_0 hz_BK4_1 hz_BK4_2
    replace ZZ := Aside0.mk (And.intro ZZ.out (show w6_.heap.size ≤ w7_.heap.size from hk.1))
    have BK2 := Aside0.mk bo
    clear bo hk hb2
    have hz_BK4_0 : w7_.cell? ⟨g4_, 0, none⟩ = some (.int .i64 x) := (blk_cell BK4.out 0).trans rfl
    have hz_BK4_1 : w7_.cell? ⟨g4_, 1, none⟩ = some (.int .i64 y) := (blk_cell BK4.out 1).trans rfl
    have hz_BK4_2 : w7_.cell? ⟨g4_, 2, none⟩ = some (.slice A_PS ps.length c_PS) := (blk_cell BK4.out 2).trans rfl
    go_wp2
    refine bodyPost_ret (results_cell_row rfl _ _ g2_ 43 #[.int .i64 0, .int .i64 x, .int .i64 y, .slice A_PS ps.length c_PS] (0, 0) _ rfl BK2.out Try.underlying43 rfl (by kernel_rfl)) rfl ?_
    exact ⟨A_PS, c_PS, rfl, HC_PS.out, AR.grow PS.out (by have h_ := ZZ.out; omega) (by have h_ := ZZ.out; omega), HB.out⟩

end Go.Proofs.Ytecndndpjekjbaa.S

/- The walk over the law FnProofs. No condition beyond those in the statements. -/
set_option linter.unusedVariables false
set_option linter.unusedSimpArgs false
namespace Go.Proofs.Ytecndndpjekjbaa.S
open Go Go.RowKit Go.Proofs.YtecndndpjekjbaaW.PrintWords Go.Proofs.YtecndndpjekjbaaW.PrintLast Go.Proofs.YtecndndpjekjbaaW.PrintMore Go.Proofs.Ytecndndpjekjbaa.Base
attribute [local go_sem] max2_int min2_int max_two min_two max_three min_three max_four min_four

set_option maxHeartbeats 80000000 in
set_option maxRecDepth 100000 in
theorem spec_ProveLeaf_M (A0 : Option Addr) (c0 : Nat) (ls : List (List Int)) (a : Int) (km : Nat) (w : World) (hr0 : Kd.C (Kd.slice 5 (Kd.int .u8)) w A0 ls.length ls) (hc0 : ls.length ≤ c0) (h_m : spec_l3Many.f km ls = some true) :
    Calls Try.prog 25 #[.slice A0 ls.length c0, .int .i64 a] w fun e w' => e = .returned (.agg #[.int .i64 2, .int .i64 0, .int .i64 0, .slice none 0 0]) ∧ Below w.heap.size w w' := by
  have hu0_ := Try.underlying43
  have HR0 := Aside0.mk hr0
  have HC0 := Aside0.mk hc0
  have H_m := Aside0.mk h_m
  have HB := Aside0.mk (Below.refl w.heap.size w)
  have ZZ := Aside0.mk (Nat.le_refl w.heap.size)
  clear hr0 hc0 h_m
  go_enter Try.func25, Try.ntmps25
  go_wp2_with (first | ((with_reducible refine gate_dst (N := 4) rfl ?_); refine hold_here ?_))
  refine hold_go ?_
  refine box_event (N := 4) (cs := #[.int .i64 0, .int .i64 0, .int .i64 0, .slice none 0 0]) (t := 43) ?hgb rfl ?hrb ?_
  case hgb => rfl
  case hrb => first | (go_simp; done) | (go_simp; rfl)
  intro g4_ hg w1_ hbox hb
  replace HB := Aside0.mk (below_step HB.out hb)
  replace ZZ := Aside0.mk (And.intro ZZ.out (show w.heap.size ≤ w1_.heap.size from hb.size))
  have BK4 := Aside0.mk hbox
  replace ZZ := Aside0.mk (And.intro ZZ.out (And.intro (show g4_ = w.heap.size from hg) (show g4_ < w1_.heap.size from blk_lt hbox)))
  clear hb hbox hg
  have hz_BK4_0 : w1_.cell? ⟨g4_, 0, none⟩ = some (.int .i64 0) := (blk_cell BK4.out 0).trans rfl
  have hz_BK4_1 : w1_.cell? ⟨g4_, 1, none⟩ = some (.int .i64 0) := (blk_cell BK4.out 1).trans rfl
  have hz_BK4_2 : w1_.cell? ⟨g4_, 2, none⟩ = some (.int .i64 0) := (blk_cell BK4.out 2).trans rfl
  have hz_BK4_3 : w1_.cell? ⟨g4_, 3, none⟩ = some (.slice none 0 0) := (blk_cell BK4.out 3).trans rfl
  go_wp2_with (first | (go_at_call 50; refine hold_here ?_))
  refine hold_go ?_
  refine (spec_l3Many.calls _ A0 c0 ls true _ ?s1 ?s2 H_m.out).mono ?_
  case s1 => exact Kd.C_below HR0.out HB.out
  case s2 => exact HC0.out
  rintro e w2_ ⟨rfl, hd⟩
  have hb := hd.below
  clear hd
  replace BK4 := Aside0.mk (blk_below BK4.out hb)
  replace HB := Aside0.mk (below_step HB.out hb)
  clear hz_BK4_0 hz_BK4_1 hz_BK4_2 hz_BK4_3
  replace ZZ := Aside0.mk (And.intro ZZ.out (show w1_.heap.size ≤ w2_.heap.size from hb.size))
  clear hb
  have hz_BK4_0 : w2_.cell? ⟨g4_, 0, none⟩ = some (.int .i64 0) := (blk_cell BK4.out 0).trans rfl
  have hz_BK4_1 : w2_.cell? ⟨g4_, 1, none⟩ = some (.int .i64 0) := (blk_cell BK4.out 1).trans rfl
  have hz_BK4_2 : w2_.cell? ⟨g4_, 2, none⟩ = some (.int .i64 0) := (blk_cell BK4.out 2).trans rfl
  have hz_BK4_3 : w2_.cell? ⟨g4_, 3, none⟩ = some (.slice none 0 0) := (blk_cell BK4.out 3).trans rfl
  go_wp2_with (first | ((with_reducible refine gate_store (t := 43) (p := 4) (v := .tmp 7) rfl ?_); refine hold_here ?_))
  refine hold_go ?_
  refine row_store rfl 43 (.tmp 4) (.tmp 7) rfl g4_ #[.int .i64 2, .int .i64 0, .int .i64 0, .slice none 0 0] rfl ?hy 43 _ BK4.out ?hi ?ho ?h1 rfl HB.out (show w.heap.size ≤ g4_ from (by have h_ := ZZ.out; omega)) ?_
  case hy => rfl
  case hi => kernel_rfl
  case ho => rfl
  case h1 => first | rfl | (simp [Value.oneCell']; done) | (go_simp; done)
  intro w3_ bo hk hb2
  clear BK4
  replace HB := Aside0.mk hb2
  clear hz_BK4_0 hz_BK4_1 hz_BK4_2 hz_BK4_3
  replace ZZ := Aside0.mk (And.intro ZZ.out (show w2_.heap.size ≤ w3_.heap.size from hk.1))
  have BK4 := Aside0.mk bo
  clear bo hk hb2
  have hz_BK4_0 : w3_.cell? ⟨g4_, 0, none⟩ = some (.int .i64 2) := (blk_cell BK4.out 0).trans rfl
  have hz_BK4_1 : w3_.cell? ⟨g4_, 1, none⟩ = some (.int .i64 0) := (blk_cell BK4.out 1).trans rfl
  have hz_BK4_2 : w3_.cell? ⟨g4_, 2, none⟩ = some (.int .i64 0) := (blk_cell BK4.out 2).trans rfl
  have hz_BK4_3 : w3_.cell? ⟨g4_, 3, none⟩ = some (.slice none 0 0) := (blk_cell BK4.out 3).trans rfl
  go_wp2
  refine bodyPost_ret (results_cell_row rfl _ _ g4_ 43 #[.int .i64 2, .int .i64 0, .int .i64 0, .slice none 0 0] (0, 0) _ rfl BK4.out Try.underlying43 rfl (by kernel_rfl)) rfl ?_
  exact ⟨rfl, HB.out⟩
set_option maxHeartbeats 80000000 in
set_option maxRecDepth 100000 in
theorem spec_ProveLeaf_I (A0 : Option Addr) (c0 : Nat) (ls : List (List Int)) (a : Int) (km : Nat) (w : World) (hr0 : Kd.C (Kd.slice 5 (Kd.int .u8)) w A0 ls.length ls) (hc0 : ls.length ≤ c0) (h_m : spec_l3Many.f km ls = some false) (h_i : spec_l1In.f a 0 ((ls.length : Int) - 1) = some false) (h_n : (ls.length : Int) ≤ 1000) :
    Calls Try.prog 25 #[.slice A0 ls.length c0, .int .i64 a] w fun e w' => e = .returned (.agg #[.int .i64 3, .int .i64 0, .int .i64 0, .slice none 0 0]) ∧ Below w.heap.size w w' := by
  have hu0_ := Try.underlying43
  have HR0 := Aside0.mk hr0
  have HC0 := Aside0.mk hc0
  have H_m := Aside0.mk h_m
  have H_i := Aside0.mk h_i
  have HB := Aside0.mk (Below.refl w.heap.size w)
  have ZZ := Aside0.mk (Nat.le_refl w.heap.size)
  clear hr0 hc0 h_m h_i
  have h0_ : 0 ≤ (ls.length : Int) := by omega
  go_enter Try.func25, Try.ntmps25
  go_wp2_with (first | ((with_reducible refine gate_dst (N := 4) rfl ?_); refine hold_here ?_))
  refine hold_go ?_
  refine box_event (N := 4) (cs := #[.int .i64 0, .int .i64 0, .int .i64 0, .slice none 0 0]) (t := 43) ?hgb rfl ?hrb ?_
  case hgb => rfl
  case hrb => first | (go_simp; done) | (go_simp; rfl)
  intro g4_ hg w1_ hbox hb
  replace HB := Aside0.mk (below_step HB.out hb)
  replace ZZ := Aside0.mk (And.intro ZZ.out (show w.heap.size ≤ w1_.heap.size from hb.size))
  have BK4 := Aside0.mk hbox
  replace ZZ := Aside0.mk (And.intro ZZ.out (And.intro (show g4_ = w.heap.size from hg) (show g4_ < w1_.heap.size from blk_lt hbox)))
  clear hb hbox hg
  have hz_BK4_0 : w1_.cell? ⟨g4_, 0, none⟩ = some (.int .i64 0) := (blk_cell BK4.out 0).trans rfl
  have hz_BK4_1 : w1_.cell? ⟨g4_, 1, none⟩ = some (.int .i64 0) := (blk_cell BK4.out 1).trans rfl
  have hz_BK4_2 : w1_.cell? ⟨g4_, 2, none⟩ = some (.int .i64 0) := (blk_cell BK4.out 2).trans rfl
  have hz_BK4_3 : w1_.cell? ⟨g4_, 3, none⟩ = some (.slice none 0 0) := (blk_cell BK4.out 3).trans rfl
  go_wp2_with (first | (go_at_call 50; refine hold_here ?_))
  refine hold_go ?_
  refine (spec_l3Many.calls _ A0 c0 ls false _ ?s1 ?s2 H_m.out).mono ?_
  case s1 => exact Kd.C_below HR0.out HB.out
  case s2 => exact HC0.out
  rintro e w2_ ⟨rfl, hd⟩
  have hb := hd.below
  clear hd
  replace BK4 := Aside0.mk (blk_below BK4.out hb)
  replace HB := Aside0.mk (below_step HB.out hb)
  clear hz_BK4_0 hz_BK4_1 hz_BK4_2 hz_BK4_3
  replace ZZ := Aside0.mk (And.intro ZZ.out (show w1_.heap.size ≤ w2_.heap.size from hb.size))
  clear hb
  have hz_BK4_0 : w2_.cell? ⟨g4_, 0, none⟩ = some (.int .i64 0) := (blk_cell BK4.out 0).trans rfl
  have hz_BK4_1 : w2_.cell? ⟨g4_, 1, none⟩ = some (.int .i64 0) := (blk_cell BK4.out 1).trans rfl
  have hz_BK4_2 : w2_.cell? ⟨g4_, 2, none⟩ = some (.int .i64 0) := (blk_cell BK4.out 2).trans rfl
  have hz_BK4_3 : w2_.cell? ⟨g4_, 3, none⟩ = some (.slice none 0 0) := (blk_cell BK4.out 3).trans rfl
  go_wp2_with (first | (go_at_call 52; refine hold_here ?_))
  refine hold_go ?_
  refine (spec_l1In.calls a 0 _ false _ H_i.out).mono ?_
  rintro e w3_ ⟨rfl, hd⟩
  have hb := hd.below
  clear hd
  replace BK4 := Aside0.mk (blk_below BK4.out hb)
  replace HB := Aside0.mk (below_step HB.out hb)
  clear hz_BK4_0 hz_BK4_1 hz_BK4_2 hz_BK4_3
  replace ZZ := Aside0.mk (And.intro ZZ.out (show w2_.heap.size ≤ w3_.heap.size from hb.size))
  clear hb
  have hz_BK4_0 : w3_.cell? ⟨g4_, 0, none⟩ = some (.int .i64 0) := (blk_cell BK4.out 0).trans rfl
  have hz_BK4_1 : w3_.cell? ⟨g4_, 1, none⟩ = some (.int .i64 0) := (blk_cell BK4.out 1).trans rfl
  have hz_BK4_2 : w3_.cell? ⟨g4_, 2, none⟩ = some (.int .i64 0) := (blk_cell BK4.out 2).trans rfl
  have hz_BK4_3 : w3_.cell? ⟨g4_, 3, none⟩ = some (.slice none 0 0) := (blk_cell BK4.out 3).trans rfl
  go_wp2_with (first | ((with_reducible refine gate_store (t := 43) (p := 4) (v := .tmp 14) rfl ?_); refine hold_here ?_))
  refine hold_go ?_
  refine row_store rfl 43 (.tmp 4) (.tmp 14) rfl g4_ #[.int .i64 3, .int .i64 0, .int .i64 0, .slice none 0 0] rfl ?hy 43 _ BK4.out ?hi ?ho ?h1 rfl HB.out (show w.heap.size ≤ g4_ from (by have h_ := ZZ.out; omega)) ?_
  case hy => rfl
  case hi => kernel_rfl
  case ho => rfl
  case h1 => first | rfl | (simp [Value.oneCell']; done) | (go_simp; done)
  intro w4_ bo hk hb2
  clear BK4
  replace HB := Aside0.mk hb2
  clear hz_BK4_0 hz_BK4_1 hz_BK4_2 hz_BK4_3
  replace ZZ := Aside0.mk (And.intro ZZ.out (show w3_.heap.size ≤ w4_.heap.size from hk.1))
  have BK4 := Aside0.mk bo
  clear bo hk hb2
  have hz_BK4_0 : w4_.cell? ⟨g4_, 0, none⟩ = some (.int .i64 3) := (blk_cell BK4.out 0).trans rfl
  have hz_BK4_1 : w4_.cell? ⟨g4_, 1, none⟩ = some (.int .i64 0) := (blk_cell BK4.out 1).trans rfl
  have hz_BK4_2 : w4_.cell? ⟨g4_, 2, none⟩ = some (.int .i64 0) := (blk_cell BK4.out 2).trans rfl
  have hz_BK4_3 : w4_.cell? ⟨g4_, 3, none⟩ = some (.slice none 0 0) := (blk_cell BK4.out 3).trans rfl
  go_wp2
  refine bodyPost_ret (results_cell_row rfl _ _ g4_ 43 #[.int .i64 3, .int .i64 0, .int .i64 0, .slice none 0 0] (0, 0) _ rfl BK4.out Try.underlying43 rfl (by kernel_rfl)) rfl ?_
  exact ⟨rfl, HB.out⟩
set_option maxHeartbeats 80000000 in
set_option maxRecDepth 100000 in
theorem law_FnProofs_big (A0 : Option Addr) (c0 : Nat) (l0 : List Int)  (w : World) (hr0 : Kd.C (Kd.int .u8) w A0 l0.length l0) (hc0 : l0.length ≤ c0)
    (h_b : laws_lwBig.f l0 = some true) :
    Calls Try.prog 8 #[.slice A0 l0.length c0] w fun e w' => e = .returned (.bool true) ∧ Below w.heap.size w w' := by
  have hu0_ := Try.underlying43
  have hu1_ := Try.underlying24
  have hu2_ := Try.underlying59
  have hu3_ := Try.underlying41
  have HR0 := Aside0.mk hr0
  have HC0 := Aside0.mk hc0
  have H_b := Aside0.mk h_b
  have HB := Aside0.mk (Below.refl w.heap.size w)
  have ZZ := Aside0.mk (Nat.le_refl w.heap.size)
  clear hr0 hc0 h_b
  go_enter Try.func8, Try.ntmps8
  go_wp2_with (first | (go_at_call 35; refine hold_here ?_))
  refine hold_go ?_
  refine (laws_lwBig.calls A0 c0 l0 true _ ?s1 ?s2 H_b.out).mono ?_
  case s1 => exact Kd.C_below HR0.out HB.out
  case s2 => exact HC0.out
  rintro e w1_ ⟨rfl, hd⟩
  have hb := hd.below
  clear hd
  replace HB := Aside0.mk (below_step HB.out hb)
  replace ZZ := Aside0.mk (And.intro ZZ.out (show w.heap.size ≤ w1_.heap.size from hb.size))
  clear hb
  go_wp2
  go_ret
  exact ⟨rfl, HB.out⟩
set_option maxHeartbeats 80000000 in
set_option maxRecDepth 100000 in
theorem law_FnProofs_bad (A0 : Option Addr) (c0 : Nat) (l0 : List Int) (ls : List (List Int)) (a q0 q1 q2 : Int) (ps : List (List Int)) (kd kp : Nat) (w : World) (hr0 : Kd.C (Kd.int .u8) w A0 l0.length l0) (hc0 : l0.length ≤ c0)
    (h_b : laws_lwBig.f l0 = some false) (h_d : spec_DrawProveLeaf.f kd l0 = some (ls, a)) (h_p : impl_ProveLeaf.f kp ls a = some (q0, q1, q2, ps)) (h_s : ∀ (B : Option Addr) (d : Nat) (W : World), Kd.C (Kd.slice 5 (Kd.int .u8)) W B ls.length ls → ls.length ≤ d → Calls Try.prog 25 #[.slice B ls.length d, .int .i64 a] W (fun e w' => e = .returned (.agg #[.int .i64 q0, .int .i64 0, .int .i64 0, .slice none 0 0]) ∧ Below W.heap.size W w')) (h_q : q0 ≠ 0) :
    Calls Try.prog 8 #[.slice A0 l0.length c0] w fun e w' => e = .returned (.bool true) ∧ Below w.heap.size w w' := by
  have hu0_ := Try.underlying43
  have hu1_ := Try.underlying24
  have hu2_ := Try.underlying59
  have hu3_ := Try.underlying41
  have HR0 := Aside0.mk hr0
  have HC0 := Aside0.mk hc0
  have H_b := Aside0.mk h_b
  have H_d := Aside0.mk h_d
  have H_p := Aside0.mk h_p
  have H_s := Aside0.mk h_s
  have H_q := Aside0.mk h_q
  have HB := Aside0.mk (Below.refl w.heap.size w)
  have ZZ := Aside0.mk (Nat.le_refl w.heap.size)
  have cq0_ : (q0 == 0) = false := beq_eq_false_iff_ne.2 h_q
  have cq1_ : (q0 != 0) = true := bne_iff_ne.2 h_q
  have hfd_0 := fun (a0 a1 a2 a3 : Value) (w : World) => (show (Instr.field 43 (.agg #[a0, a1, a2, a3]) 0).run Try.prog w = .ok a0 w from by kernel_rfl)
  clear hr0 hc0 h_b h_d h_p h_s h_q
  go_enter Try.func8, Try.ntmps8
  go_wp2_with (first | (go_at_call 35; refine hold_here ?_))
  refine hold_go ?_
  refine (laws_lwBig.calls A0 c0 l0 false _ ?s1 ?s2 H_b.out).mono ?_
  case s1 => exact Kd.C_below HR0.out HB.out
  case s2 => exact HC0.out
  rintro e w1_ ⟨rfl, hd⟩
  have hb := hd.below
  clear hd
  replace HB := Aside0.mk (below_step HB.out hb)
  replace ZZ := Aside0.mk (And.intro ZZ.out (show w.heap.size ≤ w1_.heap.size from hb.size))
  clear hb
  go_wp2_with (first | (go_at_call 36; refine hold_here ?_))
  refine hold_go ?_
  refine (spec_DrawProveLeaf.calls _ A0 c0 l0 ls a _ ?s1 ?s2 H_d.out).mono ?_
  case s1 => exact Kd.C_below HR0.out HB.out
  case s2 => exact HC0.out
  rintro e w2_ ⟨v, rfl, ho, hb⟩
  replace HB := Aside0.mk (below_step HB.out hb)
  replace ZZ := Aside0.mk (And.intro ZZ.out (show w1_.heap.size ≤ w2_.heap.size from hb.size))
  obtain ⟨A_LS, c_LS, ev_, hc_LS, hA_LS⟩ := AR_of_S (base := w.heap.size) ho (show w.heap.size ≤ w1_.heap.size from (by have h_ := ZZ.out; omega))
  subst ev_
  have HC_LS := Aside0.mk hc_LS
  have LS := Aside0.mk (show AR w.heap.size w2_ w1_.heap.size w2_.heap.size A_LS ls from hA_LS)
  clear hc_LS hA_LS ho
  clear hb
  go_wp2_with (first | (go_at_call 26; refine hold_here ?_))
  refine hold_go ?_
  refine (impl_ProveLeaf.calls _ A_LS c_LS ls a q0 q1 q2 ps _ ?s1 ?s2 H_p.out).mono ?_
  case s1 => exact Kd.F_now (AR.foot LS.out)
  case s2 => exact HC_LS.out
  rintro e w3_ ⟨v, rfl, ho, hb⟩
  replace LS := Aside0.mk (AR.below LS.out hb)
  replace HB := Aside0.mk (below_step HB.out hb)
  replace ZZ := Aside0.mk (And.intro ZZ.out (show w2_.heap.size ≤ w3_.heap.size from hb.size))
  obtain ⟨A_PS, c_PS, ev_, hc_PS, hA_PS⟩ := AR_of_S (base := w.heap.size) ho (show w.heap.size ≤ w2_.heap.size from (by have h_ := ZZ.out; omega))
  subst ev_
  have HC_PS := Aside0.mk hc_PS
  have PS := Aside0.mk (show AR w.heap.size w3_ w2_.heap.size w3_.heap.size A_PS ps from hA_PS)
  clear hc_PS hA_PS ho
  clear hb
  go_wp2_with (first | ((with_reducible refine gate_dst (N := 5) rfl ?_); refine hold_here ?_))
  refine hold_go ?_
  refine box_event (N := 5) (cs := #[.int .i64 0, .int .i64 0, .int .i64 0, .slice none 0 0]) (t := 43) ?hgb rfl ?hrb ?_
  case hgb => rfl
  case hrb => first | (go_simp; done) | (go_simp; rfl)
  intro g5_ hg w4_ hbox hb
  replace LS := Aside0.mk (AR.below LS.out hb)
  replace PS := Aside0.mk (AR.below PS.out hb)
  replace HB := Aside0.mk (below_step HB.out hb)
  replace ZZ := Aside0.mk (And.intro ZZ.out (show w3_.heap.size ≤ w4_.heap.size from hb.size))
  have BK5 := Aside0.mk hbox
  replace ZZ := Aside0.mk (And.intro ZZ.out (And.intro (show g5_ = w3_.heap.size from hg) (show g5_ < w4_.heap.size from blk_lt hbox)))
  clear hb hbox hg
  have hz_BK5_0 : w4_.cell? ⟨g5_, 0, none⟩ = some (.int .i64 0) := (blk_cell BK5.out 0).trans rfl
  have hz_BK5_1 : w4_.cell? ⟨g5_, 1, none⟩ = some (.int .i64 0) := (blk_cell BK5.out 1).trans rfl
  have hz_BK5_2 : w4_.cell? ⟨g5_, 2, none⟩ = some (.int .i64 0) := (blk_cell BK5.out 2).trans rfl
  have hz_BK5_3 : w4_.cell? ⟨g5_, 3, none⟩ = some (.slice none 0 0) := (blk_cell BK5.out 3).trans rfl
  go_wp2_with (first | ((with_reducible refine gate_store (t := 43) (p := 5) (v := .tmp 19) rfl ?_); refine hold_here ?_))
  refine hold_go ?_
  refine row_store rfl 43 (.tmp 5) (.tmp 19) rfl g5_ #[.int .i64 q0, .int .i64 q1, .int .i64 q2, .slice A_PS ps.length c_PS] rfl ?hy 43 _ BK5.out ?hi ?ho ?h1 rfl HB.out (show w.heap.size ≤ g5_ from (by have h_ := ZZ.out; omega)) ?_
  case hy => rfl
  case hi => kernel_rfl
  case ho => rfl
  case h1 => first | rfl | (simp [Value.oneCell']; done) | (go_simp; done)
  intro w5_ bo hk hb2
  clear BK5
  replace LS := Aside0.mk (AR.kept LS.out hk (by have h_ := ZZ.out; omega))
  replace PS := Aside0.mk (AR.kept PS.out hk (by have h_ := ZZ.out; omega))
  replace HB := Aside0.mk hb2
  clear hz_BK5_0 hz_BK5_1 hz_BK5_2 hz_BK5_3
  replace ZZ := Aside0.mk (And.intro ZZ.out (show w4_.heap.size ≤ w5_.heap.size from hk.1))
  have BK5 := Aside0.mk bo
  clear bo hk hb2
  have hz_BK5_0 : w5_.cell? ⟨g5_, 0, none⟩ = some (.int .i64 q0) := (blk_cell BK5.out 0).trans rfl
  have hz_BK5_1 : w5_.cell? ⟨g5_, 1, none⟩ = some (.int .i64 q1) := (blk_cell BK5.out 1).trans rfl
  have hz_BK5_2 : w5_.cell? ⟨g5_, 2, none⟩ = some (.int .i64 q2) := (blk_cell BK5.out 2).trans rfl
  have hz_BK5_3 : w5_.cell? ⟨g5_, 3, none⟩ = some (.slice A_PS ps.length c_PS) := (blk_cell BK5.out 3).trans rfl
  try go_wp2_with fail
  replace LS := Aside0.mk (AR.drew LS.out)
  replace PS := Aside0.mk (AR.drew PS.out)
  replace BK5 := Aside0.mk (blk_drew BK5.out)
  replace HB := Aside0.mk (below_drew1 HB.out)
  replace ZZ := Aside0.mk (And.intro ZZ.out (show w5_.heap.size ≤ w5_.drew.heap.size from Nat.le_refl _))
  clear hz_BK5_0 hz_BK5_1 hz_BK5_2 hz_BK5_3
  refine start_ (n := 8) (S := fun w' => w'.cell? (⟨g5_, 0, none⟩) = some (.int .i64 q0)) (ds := []) #[false, false, false, false, false, false, false, false] (by kernel_rfl) rfl rfl (show w5_.drew.cell? (⟨g5_, 0, none⟩) = some (.int .i64 q0) from (blk_cell BK5.out 0).trans rfl) (fun hHeld => ?_)
  generalize w5_.drew = w6_ at LS PS BK5 HB ZZ hHeld ⊢
  refine pure_ (i := 0) (N := some 23) (v := ?_) (a' := ?_) #[true, false, false, false, false, false, false, false] rfl rfl (by kernel_rfl) (fun _ _ _ h => h) (Or.inl ⟨by rfl, ?_⟩) ?_ ?_
  rotate_left
  · intro w'
    go_simp
    with_reducible rfl
  rotate_left
  · simp only [Act.put, List.setIfInBounds_toArray, List.set_cons_zero, List.set_cons_succ, i64_w, i32_w]
    rfl
  refine pure_ (i := 1) (N := some 24) (v := ?_) (a' := ?_) #[true, true, false, false, false, false, false, false] rfl rfl (by kernel_rfl) (fun _ _ _ h => h) (Or.inl ⟨by rfl, ?_⟩) ?_ ?_
  rotate_left
  · intro w'
    go_simp
    with_reducible rfl
  rotate_left
  · simp only [Act.put, List.setIfInBounds_toArray, List.set_cons_zero, List.set_cons_succ, i64_w, i32_w]
    rfl
  refine pure_ (i := 4) (N := some 27) (v := ?_) (a' := ?_) #[true, true, false, false, true, false, false, false] rfl rfl (by kernel_rfl) (fun _ _ _ h => h) (Or.inl ⟨by rfl, ?_⟩) ?_ ?_
  rotate_left
  · intro w'
    go_simp
    with_reducible rfl
  rotate_left
  · simp only [Act.put, List.setIfInBounds_toArray, List.set_cons_zero, List.set_cons_succ, i64_w, i32_w]
    rfl
  refine take_ (i := 5) (N := some 28) (v := ?_) (a' := ?_) #[true, true, false, false, true, true, false, false] rfl rfl (by kernel_rfl) (fun _ _ _ h => h) (Or.inl ⟨by rfl, ?_⟩) hHeld ?_ ?_
  rotate_left
  · rintro w' s0
    go_simp
    with_reducible rfl
  rotate_left
  · simp only [Act.put, List.setIfInBounds_toArray, List.set_cons_zero, List.set_cons_succ, i64_w, i32_w]
    rfl
  refine one_ (i := 2) (N := some 25) #[true, true, true, false, true, true, false, false] rfl rfl (by kernel_rfl) (by decide) (fun K hK => ?_)
  refine goes_ Try.func25 (by kernel_rfl) rfl #[.slice A_LS ls.length c_LS, .int .i64 a] (by rfl) rfl rfl (by (try simp only [List.map_toArray, List.map_cons, List.map_nil]); first | done | rfl) ?_
  refine (H_s.out A_LS c_LS _ ?s1 ?s2).mono ?_
  case s1 => exact Kd.F_now (AR.foot LS.out)
  case s2 => exact HC_LS.out
  rintro e w7_ ⟨rfl, hb⟩
  refine ⟨_, rfl, ?_⟩
  have hS_ : (fun w' : World => w'.cell? (⟨g5_, 0, none⟩) = some (.int .i64 q0)) w7_ := by
    have s0 := hHeld
    exact (hb.cell (World.block_lt_of_cell? _ _ s0)).trans s0
  replace LS := Aside0.mk (AR.below LS.out hb)
  replace PS := Aside0.mk (AR.below PS.out hb)
  replace BK5 := Aside0.mk (blk_below BK5.out hb)
  replace HB := Aside0.mk (below_step HB.out hb)
  replace ZZ := Aside0.mk (And.intro ZZ.out (show w6_.heap.size ≤ w7_.heap.size from hb.size))
  refine hK.out _ _ hS_ (fun hHeld2 => ?_)
  clear hK K hHeld hS_ hb
  have hHeld := hHeld2
  clear hHeld2
  refine norm_ (a' := ?_) ?_ ?_
  rotate_left
  · show Act.put _ (some 25) _ = _
    simp only [Act.put, List.setIfInBounds_toArray, List.set_cons_zero, List.set_cons_succ, i64_w, i32_w]
    rfl
  refine pure_ (i := 3) (N := some 26) (v := ?_) (a' := ?_) #[true, true, true, true, true, true, false, false] rfl rfl (by kernel_rfl) (fun _ _ _ h => h) (Or.inl ⟨by rfl, ?_⟩) ?_ ?_
  rotate_left
  · intro w'
    go_simp
    with_reducible rfl
  rotate_left
  · simp only [Act.put, List.setIfInBounds_toArray, List.set_cons_zero, List.set_cons_succ, i64_w, i32_w]
    rfl
  refine pure_ (i := 6) (N := some 29) (v := ?_) (a' := ?_) #[true, true, true, true, true, true, true, false] rfl rfl (by kernel_rfl) (fun _ _ _ h => h) (Or.inl ⟨by rfl, ?_⟩) ?_ ?_
  rotate_left
  · intro w'
    go_simp
    with_reducible rfl
  rotate_left
  · simp only [Act.put, List.setIfInBounds_toArray, List.set_cons_zero, List.set_cons_succ, i64_w, i32_w]
    rfl
  refine pure_ (i := 7) (N := some 2) (v := ?_) (a' := ?_) #[true, true, true, true, true, true, true, true] rfl rfl (by kernel_rfl) (fun _ _ _ h => h) (Or.inl ⟨by rfl, ?_⟩) ?_ ?_
  rotate_left
  · intro w'
    go_simp
    with_reducible rfl
  rotate_left
  · simp only [Act.put, List.setIfInBounds_toArray, List.set_cons_zero, List.set_cons_succ, i64_w, i32_w]
    rfl
  refine done_ (by kernel_rfl) ?_
  go_wp2
  go_ret
  exact ⟨by simp, HB.out⟩
set_option maxHeartbeats 80000000 in
set_option maxRecDepth 100000 in
theorem law_FnProofs_ok (A0 : Option Addr) (c0 : Nat) (l0 : List Int) (ls : List (List Int)) (i : Nat) (lf : List Int) (ps : List (List Int)) (rt pb : List Int) (nc : Int) (kd kp kr kk kn kc : Nat) (w : World) (hr0 : Kd.C (Kd.int .u8) w A0 l0.length l0) (hc0 : l0.length ≤ c0)
    (h_b : laws_lwBig.f l0 = some false) (h_i : i < ls.length) (h_l : ls[i]! = lf) (h_d : spec_DrawProveLeaf.f kd l0 = some (ls, (i : Int))) (h_p : impl_ProveLeaf.f kp ls (i : Int) = some (0, (i : Int), (ls.length : Int), ps)) (h_r : impl_RootOf.f kr ls = some (0, rt)) (h_k : impl_PackProof.f kk (i : Int) (ls.length : Int) ps = some (0, pb)) (h_u : ∀ (B : Option Addr) (d : Nat) (W : World), Kd.C (Kd.int .u8) W B pb.length pb → pb.length ≤ d → Calls Try.prog 38 #[.slice B pb.length d] W (fun e w' => ∃ A c, e = .returned (.agg #[.int .i64 0, .int .i64 (i : Int), .int .i64 (ls.length : Int), .slice A ps.length c]) ∧ ps.length ≤ c ∧ AR W.heap.size w' W.heap.size w'.heap.size A ps ∧ Below W.heap.size W w')) (h_n : impl_PathLength.f kn (ls.length : Int) (i : Int) = some (nc, (ps.length : Int))) (h_c : impl_CheckProof.f kc rt lf (i : Int) (ls.length : Int) ps = some true) :
    Calls Try.prog 8 #[.slice A0 l0.length c0] w fun e w' => e = .returned (.bool true) ∧ Below w.heap.size w w' := by
  have hu0_ := Try.underlying43
  have hu1_ := Try.underlying24
  have hu2_ := Try.underlying59
  have hu3_ := Try.underlying41
  have HR0 := Aside0.mk hr0
  have HC0 := Aside0.mk hc0
  have H_b := Aside0.mk h_b
  have H_i := Aside0.mk h_i
  have H_l := Aside0.mk h_l
  have H_d := Aside0.mk h_d
  have H_p := Aside0.mk h_p
  have H_r := Aside0.mk h_r
  have H_k := Aside0.mk h_k
  have H_u := Aside0.mk h_u
  have H_n := Aside0.mk h_n
  have H_c := Aside0.mk h_c
  have HB := Aside0.mk (Below.refl w.heap.size w)
  have ZZ := Aside0.mk (Nat.le_refl w.heap.size)
  have ci0_ : (0 ≤ (i : Int)) = True := eq_true (by omega)
  have ci1_ : ((i : Int) < (ls.length : Int)) = True := eq_true (by omega)
  have ci2_ : (i < ls.length) = True := eq_true h_i
  clear hr0 hc0 h_b h_i h_l h_d h_p h_r h_k h_u h_n h_c
  go_enter Try.func8, Try.ntmps8
  go_wp2_with (first | (go_at_call 35; refine hold_here ?_))
  refine hold_go ?_
  refine (laws_lwBig.calls A0 c0 l0 false _ ?s1 ?s2 H_b.out).mono ?_
  case s1 => exact Kd.C_below HR0.out HB.out
  case s2 => exact HC0.out
  rintro e w1_ ⟨rfl, hd⟩
  have hb := hd.below
  clear hd
  replace HB := Aside0.mk (below_step HB.out hb)
  replace ZZ := Aside0.mk (And.intro ZZ.out (show w.heap.size ≤ w1_.heap.size from hb.size))
  clear hb
  go_wp2_with (first | (go_at_call 36; refine hold_here ?_))
  refine hold_go ?_
  refine (spec_DrawProveLeaf.calls _ A0 c0 l0 ls (i : Int) _ ?s1 ?s2 H_d.out).mono ?_
  case s1 => exact Kd.C_below HR0.out HB.out
  case s2 => exact HC0.out
  rintro e w2_ ⟨v, rfl, ho, hb⟩
  replace HB := Aside0.mk (below_step HB.out hb)
  replace ZZ := Aside0.mk (And.intro ZZ.out (show w1_.heap.size ≤ w2_.heap.size from hb.size))
  obtain ⟨A_LS, c_LS, ev_, hc_LS, hA_LS⟩ := AR_of_S (base := w.heap.size) ho (show w.heap.size ≤ w1_.heap.size from (by have h_ := ZZ.out; omega))
  subst ev_
  have HC_LS := Aside0.mk hc_LS
  have LS := Aside0.mk (show AR w.heap.size w2_ w1_.heap.size w2_.heap.size A_LS ls from hA_LS)
  clear hc_LS hA_LS ho
  clear hb
  go_wp2_with (first | (go_at_call 26; refine hold_here ?_))
  refine hold_go ?_
  refine (impl_ProveLeaf.calls _ A_LS c_LS ls (i : Int) 0 (i : Int) (ls.length : Int) ps _ ?s1 ?s2 H_p.out).mono ?_
  case s1 => exact Kd.F_now (AR.foot LS.out)
  case s2 => exact HC_LS.out
  rintro e w3_ ⟨v, rfl, ho, hb⟩
  replace LS := Aside0.mk (AR.below LS.out hb)
  replace HB := Aside0.mk (below_step HB.out hb)
  replace ZZ := Aside0.mk (And.intro ZZ.out (show w2_.heap.size ≤ w3_.heap.size from hb.size))
  obtain ⟨A_PS, c_PS, ev_, hc_PS, hA_PS⟩ := AR_of_S (base := w.heap.size) ho (show w.heap.size ≤ w2_.heap.size from (by have h_ := ZZ.out; omega))
  subst ev_
  have HC_PS := Aside0.mk hc_PS
  have PS := Aside0.mk (show AR w.heap.size w3_ w2_.heap.size w3_.heap.size A_PS ps from hA_PS)
  clear hc_PS hA_PS ho
  clear hb
  go_wp2_with (first | ((with_reducible refine gate_dst (N := 5) rfl ?_); refine hold_here ?_))
  refine hold_go ?_
  refine box_event (N := 5) (cs := #[.int .i64 0, .int .i64 0, .int .i64 0, .slice none 0 0]) (t := 43) ?hgb rfl ?hrb ?_
  case hgb => rfl
  case hrb => first | (go_simp; done) | (go_simp; rfl)
  intro g5_ hg w4_ hbox hb
  replace LS := Aside0.mk (AR.below LS.out hb)
  replace PS := Aside0.mk (AR.below PS.out hb)
  replace HB := Aside0.mk (below_step HB.out hb)
  replace ZZ := Aside0.mk (And.intro ZZ.out (show w3_.heap.size ≤ w4_.heap.size from hb.size))
  have BK5 := Aside0.mk hbox
  replace ZZ := Aside0.mk (And.intro ZZ.out (And.intro (show g5_ = w3_.heap.size from hg) (show g5_ < w4_.heap.size from blk_lt hbox)))
  clear hb hbox hg
  have hz_BK5_0 : w4_.cell? ⟨g5_, 0, none⟩ = some (.int .i64 0) := (blk_cell BK5.out 0).trans rfl
  have hz_BK5_1 : w4_.cell? ⟨g5_, 1, none⟩ = some (.int .i64 0) := (blk_cell BK5.out 1).trans rfl
  have hz_BK5_2 : w4_.cell? ⟨g5_, 2, none⟩ = some (.int .i64 0) := (blk_cell BK5.out 2).trans rfl
  have hz_BK5_3 : w4_.cell? ⟨g5_, 3, none⟩ = some (.slice none 0 0) := (blk_cell BK5.out 3).trans rfl
  go_wp2_with (first | ((with_reducible refine gate_store (t := 43) (p := 5) (v := .tmp 19) rfl ?_); refine hold_here ?_))
  refine hold_go ?_
  refine row_store rfl 43 (.tmp 5) (.tmp 19) rfl g5_ #[.int .i64 0, .int .i64 (i : Int), .int .i64 (ls.length : Int), .slice A_PS ps.length c_PS] rfl ?hy 43 _ BK5.out ?hi ?ho ?h1 rfl HB.out (show w.heap.size ≤ g5_ from (by have h_ := ZZ.out; omega)) ?_
  case hy => rfl
  case hi => kernel_rfl
  case ho => rfl
  case h1 => first | rfl | (simp [Value.oneCell']; done) | (go_simp; done)
  intro w5_ bo hk hb2
  clear BK5
  replace LS := Aside0.mk (AR.kept LS.out hk (by have h_ := ZZ.out; omega))
  replace PS := Aside0.mk (AR.kept PS.out hk (by have h_ := ZZ.out; omega))
  replace HB := Aside0.mk hb2
  clear hz_BK5_0 hz_BK5_1 hz_BK5_2 hz_BK5_3
  replace ZZ := Aside0.mk (And.intro ZZ.out (show w4_.heap.size ≤ w5_.heap.size from hk.1))
  have BK5 := Aside0.mk bo
  clear bo hk hb2
  have hz_BK5_0 : w5_.cell? ⟨g5_, 0, none⟩ = some (.int .i64 0) := (blk_cell BK5.out 0).trans rfl
  have hz_BK5_1 : w5_.cell? ⟨g5_, 1, none⟩ = some (.int .i64 (i : Int)) := (blk_cell BK5.out 1).trans rfl
  have hz_BK5_2 : w5_.cell? ⟨g5_, 2, none⟩ = some (.int .i64 (ls.length : Int)) := (blk_cell BK5.out 2).trans rfl
  have hz_BK5_3 : w5_.cell? ⟨g5_, 3, none⟩ = some (.slice A_PS ps.length c_PS) := (blk_cell BK5.out 3).trans rfl
  go_wp2_with (first | (go_at_call 22; refine hold_here ?_))
  refine hold_go ?_
  refine (impl_RootOf.calls _ A_LS c_LS ls 0 rt _ ?s1 ?s2 H_r.out).mono ?_
  case s1 => exact Kd.F_now (AR.foot LS.out)
  case s2 => exact HC_LS.out
  rintro e w6_ ⟨v, rfl, ho, hb⟩
  replace LS := Aside0.mk (AR.below LS.out hb)
  replace PS := Aside0.mk (AR.below PS.out hb)
  replace BK5 := Aside0.mk (blk_below BK5.out hb)
  replace HB := Aside0.mk (below_step HB.out hb)
  clear hz_BK5_0 hz_BK5_1 hz_BK5_2 hz_BK5_3
  replace ZZ := Aside0.mk (And.intro ZZ.out (show w5_.heap.size ≤ w6_.heap.size from hb.size))
  obtain ⟨A_RB, c_RB, ev_, hA_RB⟩ := B_of_R (base := w.heap.size) ho (show w.heap.size ≤ w5_.heap.size from (by have h_ := ZZ.out; omega))
  subst ev_
  have RB := Aside0.mk (show Kd.R (Kd.int .u8) 5 w6_ w.heap.size (In w5_.heap.size w6_.heap.size) (.slice A_RB rt.length c_RB) rt from hA_RB)
  clear hA_RB ho
  clear hb
  have hz_BK5_0 : w6_.cell? ⟨g5_, 0, none⟩ = some (.int .i64 0) := (blk_cell BK5.out 0).trans rfl
  have hz_BK5_1 : w6_.cell? ⟨g5_, 1, none⟩ = some (.int .i64 (i : Int)) := (blk_cell BK5.out 1).trans rfl
  have hz_BK5_2 : w6_.cell? ⟨g5_, 2, none⟩ = some (.int .i64 (ls.length : Int)) := (blk_cell BK5.out 2).trans rfl
  have hz_BK5_3 : w6_.cell? ⟨g5_, 3, none⟩ = some (.slice A_PS ps.length c_PS) := (blk_cell BK5.out 3).trans rfl
  go_wp2_with (first | ((with_reducible refine gate_dst (N := 6) rfl ?_); refine hold_here ?_))
  refine hold_go ?_
  refine box_event (N := 6) (cs := #[.int .i64 0, .slice none 0 0]) (t := 24) ?hgb rfl ?hrb ?_
  case hgb => rfl
  case hrb => first | (go_simp; done) | (go_simp; rfl)
  intro g6_ hg w7_ hbox hb
  replace LS := Aside0.mk (AR.below LS.out hb)
  replace PS := Aside0.mk (AR.below PS.out hb)
  replace BK5 := Aside0.mk (blk_below BK5.out hb)
  replace RB := Aside0.mk (Kd.R_below RB.out hb)
  replace HB := Aside0.mk (below_step HB.out hb)
  clear hz_BK5_0 hz_BK5_1 hz_BK5_2 hz_BK5_3
  replace ZZ := Aside0.mk (And.intro ZZ.out (show w6_.heap.size ≤ w7_.heap.size from hb.size))
  have BK6 := Aside0.mk hbox
  replace ZZ := Aside0.mk (And.intro ZZ.out (And.intro (show g6_ = w6_.heap.size from hg) (show g6_ < w7_.heap.size from blk_lt hbox)))
  clear hb hbox hg
  have hz_BK5_0 : w7_.cell? ⟨g5_, 0, none⟩ = some (.int .i64 0) := (blk_cell BK5.out 0).trans rfl
  have hz_BK5_1 : w7_.cell? ⟨g5_, 1, none⟩ = some (.int .i64 (i : Int)) := (blk_cell BK5.out 1).trans rfl
  have hz_BK5_2 : w7_.cell? ⟨g5_, 2, none⟩ = some (.int .i64 (ls.length : Int)) := (blk_cell BK5.out 2).trans rfl
  have hz_BK5_3 : w7_.cell? ⟨g5_, 3, none⟩ = some (.slice A_PS ps.length c_PS) := (blk_cell BK5.out 3).trans rfl
  have hz_BK6_0 : w7_.cell? ⟨g6_, 0, none⟩ = some (.int .i64 0) := (blk_cell BK6.out 0).trans rfl
  have hz_BK6_1 : w7_.cell? ⟨g6_, 1, none⟩ = some (.slice none 0 0) := (blk_cell BK6.out 1).trans rfl
  go_wp2_with (first | ((with_reducible refine gate_store (t := 24) (p := 6) (v := .tmp 31) rfl ?_); refine hold_here ?_))
  refine hold_go ?_
  refine row_store rfl 24 (.tmp 6) (.tmp 31) rfl g6_ #[.int .i64 0, .slice A_RB rt.length c_RB] rfl ?hy 24 _ BK6.out ?hi ?ho ?h1 rfl HB.out (show w.heap.size ≤ g6_ from (by have h_ := ZZ.out; omega)) ?_
  case hy => rfl
  case hi => kernel_rfl
  case ho => rfl
  case h1 => first | rfl | (simp [Value.oneCell']; done) | (go_simp; done)
  intro w8_ bo hk hb2
  clear BK6
  replace LS := Aside0.mk (AR.kept LS.out hk (by have h_ := ZZ.out; omega))
  replace PS := Aside0.mk (AR.kept PS.out hk (by have h_ := ZZ.out; omega))
  replace BK5 := Aside0.mk (blk_keptIn BK5.out hk (by have h_ := ZZ.out; omega))
  replace RB := Aside0.mk (B_kept RB.out hk (by have h_ := ZZ.out; omega))
  replace HB := Aside0.mk hb2
  clear hz_BK5_0 hz_BK5_1 hz_BK5_2 hz_BK5_3 hz_BK6_0 hz_BK6_1
  replace ZZ := Aside0.mk (And.intro ZZ.out (show w7_.heap.size ≤ w8_.heap.size from hk.1))
  have BK6 := Aside0.mk bo
  clear bo hk hb2
  have hz_BK5_0 : w8_.cell? ⟨g5_, 0, none⟩ = some (.int .i64 0) := (blk_cell BK5.out 0).trans rfl
  have hz_BK5_1 : w8_.cell? ⟨g5_, 1, none⟩ = some (.int .i64 (i : Int)) := (blk_cell BK5.out 1).trans rfl
  have hz_BK5_2 : w8_.cell? ⟨g5_, 2, none⟩ = some (.int .i64 (ls.length : Int)) := (blk_cell BK5.out 2).trans rfl
  have hz_BK5_3 : w8_.cell? ⟨g5_, 3, none⟩ = some (.slice A_PS ps.length c_PS) := (blk_cell BK5.out 3).trans rfl
  have hz_BK6_0 : w8_.cell? ⟨g6_, 0, none⟩ = some (.int .i64 0) := (blk_cell BK6.out 0).trans rfl
  have hz_BK6_1 : w8_.cell? ⟨g6_, 1, none⟩ = some (.slice A_RB rt.length c_RB) := (blk_cell BK6.out 1).trans rfl
  go_wp2_with (first | (go_at_call 37; refine hold_here ?_))
  refine hold_go ?_
  refine (impl_PackProof.calls _ (i : Int) (ls.length : Int) A_PS c_PS ps 0 pb _ ?s1 ?s2 H_k.out).mono ?_
  case s1 => exact Kd.F_now (AR.foot PS.out)
  case s2 => exact HC_PS.out
  rintro e w9_ ⟨v, rfl, ho, hb⟩
  replace LS := Aside0.mk (AR.below LS.out hb)
  replace PS := Aside0.mk (AR.below PS.out hb)
  replace BK5 := Aside0.mk (blk_below BK5.out hb)
  replace RB := Aside0.mk (Kd.R_below RB.out hb)
  replace BK6 := Aside0.mk (blk_below BK6.out hb)
  replace HB := Aside0.mk (below_step HB.out hb)
  clear hz_BK5_0 hz_BK5_1 hz_BK5_2 hz_BK5_3 hz_BK6_0 hz_BK6_1
  replace ZZ := Aside0.mk (And.intro ZZ.out (show w8_.heap.size ≤ w9_.heap.size from hb.size))
  obtain ⟨A_PB, c_PB, ev_, hA_PB⟩ := B_of_R (base := w.heap.size) ho (show w.heap.size ≤ w8_.heap.size from (by have h_ := ZZ.out; omega))
  subst ev_
  have PB := Aside0.mk (show Kd.R (Kd.int .u8) 5 w9_ w.heap.size (In w8_.heap.size w9_.heap.size) (.slice A_PB pb.length c_PB) pb from hA_PB)
  clear hA_PB ho
  clear hb
  have hz_BK5_0 : w9_.cell? ⟨g5_, 0, none⟩ = some (.int .i64 0) := (blk_cell BK5.out 0).trans rfl
  have hz_BK5_1 : w9_.cell? ⟨g5_, 1, none⟩ = some (.int .i64 (i : Int)) := (blk_cell BK5.out 1).trans rfl
  have hz_BK5_2 : w9_.cell? ⟨g5_, 2, none⟩ = some (.int .i64 (ls.length : Int)) := (blk_cell BK5.out 2).trans rfl
  have hz_BK5_3 : w9_.cell? ⟨g5_, 3, none⟩ = some (.slice A_PS ps.length c_PS) := (blk_cell BK5.out 3).trans rfl
  have hz_BK6_0 : w9_.cell? ⟨g6_, 0, none⟩ = some (.int .i64 0) := (blk_cell BK6.out 0).trans rfl
  have hz_BK6_1 : w9_.cell? ⟨g6_, 1, none⟩ = some (.slice A_RB rt.length c_RB) := (blk_cell BK6.out 1).trans rfl
  go_wp2_with (first | ((with_reducible refine gate_dst (N := 7) rfl ?_); refine hold_here ?_))
  refine hold_go ?_
  refine box_event (N := 7) (cs := #[.int .i64 0, .slice none 0 0]) (t := 24) ?hgb rfl ?hrb ?_
  case hgb => rfl
  case hrb => first | (go_simp; done) | (go_simp; rfl)
  intro g7_ hg w10_ hbox hb
  replace LS := Aside0.mk (AR.below LS.out hb)
  replace PS := Aside0.mk (AR.below PS.out hb)
  replace BK5 := Aside0.mk (blk_below BK5.out hb)
  replace RB := Aside0.mk (Kd.R_below RB.out hb)
  replace BK6 := Aside0.mk (blk_below BK6.out hb)
  replace PB := Aside0.mk (Kd.R_below PB.out hb)
  replace HB := Aside0.mk (below_step HB.out hb)
  clear hz_BK5_0 hz_BK5_1 hz_BK5_2 hz_BK5_3 hz_BK6_0 hz_BK6_1
  replace ZZ := Aside0.mk (And.intro ZZ.out (show w9_.heap.size ≤ w10_.heap.size from hb.size))
  have BK7 := Aside0.mk hbox
  replace ZZ := Aside0.mk (And.intro ZZ.out (And.intro (show g7_ = w9_.heap.size from hg) (show g7_ < w10_.heap.size from blk_lt hbox)))
  clear hb hbox hg
  have hz_BK5_0 : w10_.cell? ⟨g5_, 0, none⟩ = some (.int .i64 0) := (blk_cell BK5.out 0).trans rfl
  have hz_BK5_1 : w10_.cell? ⟨g5_, 1, none⟩ = some (.int .i64 (i : Int)) := (blk_cell BK5.out 1).trans rfl
  have hz_BK5_2 : w10_.cell? ⟨g5_, 2, none⟩ = some (.int .i64 (ls.length : Int)) := (blk_cell BK5.out 2).trans rfl
  have hz_BK5_3 : w10_.cell? ⟨g5_, 3, none⟩ = some (.slice A_PS ps.length c_PS) := (blk_cell BK5.out 3).trans rfl
  have hz_BK6_0 : w10_.cell? ⟨g6_, 0, none⟩ = some (.int .i64 0) := (blk_cell BK6.out 0).trans rfl
  have hz_BK6_1 : w10_.cell? ⟨g6_, 1, none⟩ = some (.slice A_RB rt.length c_RB) := (blk_cell BK6.out 1).trans rfl
  have hz_BK7_0 : w10_.cell? ⟨g7_, 0, none⟩ = some (.int .i64 0) := (blk_cell BK7.out 0).trans rfl
  have hz_BK7_1 : w10_.cell? ⟨g7_, 1, none⟩ = some (.slice none 0 0) := (blk_cell BK7.out 1).trans rfl
  go_wp2_with (first | ((with_reducible refine gate_store (t := 24) (p := 7) (v := .tmp 34) rfl ?_); refine hold_here ?_))
  refine hold_go ?_
  refine row_store rfl 24 (.tmp 7) (.tmp 34) rfl g7_ #[.int .i64 0, .slice A_PB pb.length c_PB] rfl ?hy 24 _ BK7.out ?hi ?ho ?h1 rfl HB.out (show w.heap.size ≤ g7_ from (by have h_ := ZZ.out; omega)) ?_
  case hy => rfl
  case hi => kernel_rfl
  case ho => rfl
  case h1 => first | rfl | (simp [Value.oneCell']; done) | (go_simp; done)
  intro w11_ bo hk hb2
  clear BK7
  replace LS := Aside0.mk (AR.kept LS.out hk (by have h_ := ZZ.out; omega))
  replace PS := Aside0.mk (AR.kept PS.out hk (by have h_ := ZZ.out; omega))
  replace BK5 := Aside0.mk (blk_keptIn BK5.out hk (by have h_ := ZZ.out; omega))
  replace RB := Aside0.mk (B_kept RB.out hk (by have h_ := ZZ.out; omega))
  replace BK6 := Aside0.mk (blk_keptIn BK6.out hk (by have h_ := ZZ.out; omega))
  replace PB := Aside0.mk (B_kept PB.out hk (by have h_ := ZZ.out; omega))
  replace HB := Aside0.mk hb2
  clear hz_BK5_0 hz_BK5_1 hz_BK5_2 hz_BK5_3 hz_BK6_0 hz_BK6_1 hz_BK7_0 hz_BK7_1
  replace ZZ := Aside0.mk (And.intro ZZ.out (show w10_.heap.size ≤ w11_.heap.size from hk.1))
  have BK7 := Aside0.mk bo
  clear bo hk hb2
  have hz_BK5_0 : w11_.cell? ⟨g5_, 0, none⟩ = some (.int .i64 0) := (blk_cell BK5.out 0).trans rfl
  have hz_BK5_1 : w11_.cell? ⟨g5_, 1, none⟩ = some (.int .i64 (i : Int)) := (blk_cell BK5.out 1).trans rfl
  have hz_BK5_2 : w11_.cell? ⟨g5_, 2, none⟩ = some (.int .i64 (ls.length : Int)) := (blk_cell BK5.out 2).trans rfl
  have hz_BK5_3 : w11_.cell? ⟨g5_, 3, none⟩ = some (.slice A_PS ps.length c_PS) := (blk_cell BK5.out 3).trans rfl
  have hz_BK6_0 : w11_.cell? ⟨g6_, 0, none⟩ = some (.int .i64 0) := (blk_cell BK6.out 0).trans rfl
  have hz_BK6_1 : w11_.cell? ⟨g6_, 1, none⟩ = some (.slice A_RB rt.length c_RB) := (blk_cell BK6.out 1).trans rfl
  have hz_BK7_0 : w11_.cell? ⟨g7_, 0, none⟩ = some (.int .i64 0) := (blk_cell BK7.out 0).trans rfl
  have hz_BK7_1 : w11_.cell? ⟨g7_, 1, none⟩ = some (.slice A_PB pb.length c_PB) := (blk_cell BK7.out 1).trans rfl
  go_wp2_with (first | (go_at_call 38; refine hold_here ?_))
  refine hold_go ?_
  refine (H_u.out A_PB c_PB _ ?s1 ?s2).mono ?_
  case s1 => exact (Kd.R_reads' PB.out).2.2
  case s2 => exact (Kd.R_reads' PB.out).2.1
  rintro e w12_ ⟨A_US, c_US, rfl, hc_, ha, hb⟩
  replace LS := Aside0.mk (AR.below LS.out hb)
  replace PS := Aside0.mk (AR.below PS.out hb)
  replace BK5 := Aside0.mk (blk_below BK5.out hb)
  replace RB := Aside0.mk (Kd.R_below RB.out hb)
  replace BK6 := Aside0.mk (blk_below BK6.out hb)
  replace PB := Aside0.mk (Kd.R_below PB.out hb)
  replace BK7 := Aside0.mk (blk_below BK7.out hb)
  replace HB := Aside0.mk (below_step HB.out hb)
  clear hz_BK5_0 hz_BK5_1 hz_BK5_2 hz_BK5_3 hz_BK6_0 hz_BK6_1 hz_BK7_0 hz_BK7_1
  replace ZZ := Aside0.mk (And.intro ZZ.out (show w11_.heap.size ≤ w12_.heap.size from hb.size))
  have HC_US := Aside0.mk hc_
  have US := Aside0.mk (show AR w.heap.size w12_ w11_.heap.size w12_.heap.size A_US ps from AR.lower ha (by have h_ := ZZ.out; omega))
  clear hc_ ha
  clear hb
  have hz_BK5_0 : w12_.cell? ⟨g5_, 0, none⟩ = some (.int .i64 0) := (blk_cell BK5.out 0).trans rfl
  have hz_BK5_1 : w12_.cell? ⟨g5_, 1, none⟩ = some (.int .i64 (i : Int)) := (blk_cell BK5.out 1).trans rfl
  have hz_BK5_2 : w12_.cell? ⟨g5_, 2, none⟩ = some (.int .i64 (ls.length : Int)) := (blk_cell BK5.out 2).trans rfl
  have hz_BK5_3 : w12_.cell? ⟨g5_, 3, none⟩ = some (.slice A_PS ps.length c_PS) := (blk_cell BK5.out 3).trans rfl
  have hz_BK6_0 : w12_.cell? ⟨g6_, 0, none⟩ = some (.int .i64 0) := (blk_cell BK6.out 0).trans rfl
  have hz_BK6_1 : w12_.cell? ⟨g6_, 1, none⟩ = some (.slice A_RB rt.length c_RB) := (blk_cell BK6.out 1).trans rfl
  have hz_BK7_0 : w12_.cell? ⟨g7_, 0, none⟩ = some (.int .i64 0) := (blk_cell BK7.out 0).trans rfl
  have hz_BK7_1 : w12_.cell? ⟨g7_, 1, none⟩ = some (.slice A_PB pb.length c_PB) := (blk_cell BK7.out 1).trans rfl
  go_wp2_with (first | ((with_reducible refine gate_dst (N := 8) rfl ?_); refine hold_here ?_))
  refine hold_go ?_
  refine box_event (N := 8) (cs := #[.int .i64 0, .int .i64 0, .int .i64 0, .slice none 0 0]) (t := 43) ?hgb rfl ?hrb ?_
  case hgb => rfl
  case hrb => first | (go_simp; done) | (go_simp; rfl)
  intro g8_ hg w13_ hbox hb
  replace LS := Aside0.mk (AR.below LS.out hb)
  replace PS := Aside0.mk (AR.below PS.out hb)
  replace BK5 := Aside0.mk (blk_below BK5.out hb)
  replace RB := Aside0.mk (Kd.R_below RB.out hb)
  replace BK6 := Aside0.mk (blk_below BK6.out hb)
  replace PB := Aside0.mk (Kd.R_below PB.out hb)
  replace BK7 := Aside0.mk (blk_below BK7.out hb)
  replace US := Aside0.mk (AR.below US.out hb)
  replace HB := Aside0.mk (below_step HB.out hb)
  clear hz_BK5_0 hz_BK5_1 hz_BK5_2 hz_BK5_3 hz_BK6_0 hz_BK6_1 hz_BK7_0 hz_BK7_1
  replace ZZ := Aside0.mk (And.intro ZZ.out (show w12_.heap.size ≤ w13_.heap.size from hb.size))
  have BK8 := Aside0.mk hbox
  replace ZZ := Aside0.mk (And.intro ZZ.out (And.intro (show g8_ = w12_.heap.size from hg) (show g8_ < w13_.heap.size from blk_lt hbox)))
  clear hb hbox hg
  have hz_BK5_0 : w13_.cell? ⟨g5_, 0, none⟩ = some (.int .i64 0) := (blk_cell BK5.out 0).trans rfl
  have hz_BK5_1 : w13_.cell? ⟨g5_, 1, none⟩ = some (.int .i64 (i : Int)) := (blk_cell BK5.out 1).trans rfl
  have hz_BK5_2 : w13_.cell? ⟨g5_, 2, none⟩ = some (.int .i64 (ls.length : Int)) := (blk_cell BK5.out 2).trans rfl
  have hz_BK5_3 : w13_.cell? ⟨g5_, 3, none⟩ = some (.slice A_PS ps.length c_PS) := (blk_cell BK5.out 3).trans rfl
  have hz_BK6_0 : w13_.cell? ⟨g6_, 0, none⟩ = some (.int .i64 0) := (blk_cell BK6.out 0).trans rfl
  have hz_BK6_1 : w13_.cell? ⟨g6_, 1, none⟩ = some (.slice A_RB rt.length c_RB) := (blk_cell BK6.out 1).trans rfl
  have hz_BK7_0 : w13_.cell? ⟨g7_, 0, none⟩ = some (.int .i64 0) := (blk_cell BK7.out 0).trans rfl
  have hz_BK7_1 : w13_.cell? ⟨g7_, 1, none⟩ = some (.slice A_PB pb.length c_PB) := (blk_cell BK7.out 1).trans rfl
  have hz_BK8_0 : w13_.cell? ⟨g8_, 0, none⟩ = some (.int .i64 0) := (blk_cell BK8.out 0).trans rfl
  have hz_BK8_1 : w13_.cell? ⟨g8_, 1, none⟩ = some (.int .i64 0) := (blk_cell BK8.out 1).trans rfl
  have hz_BK8_2 : w13_.cell? ⟨g8_, 2, none⟩ = some (.int .i64 0) := (blk_cell BK8.out 2).trans rfl
  have hz_BK8_3 : w13_.cell? ⟨g8_, 3, none⟩ = some (.slice none 0 0) := (blk_cell BK8.out 3).trans rfl
  go_wp2_with (first | ((with_reducible refine gate_store (t := 43) (p := 8) (v := .tmp 37) rfl ?_); refine hold_here ?_))
  refine hold_go ?_
  refine row_store rfl 43 (.tmp 8) (.tmp 37) rfl g8_ #[.int .i64 0, .int .i64 (i : Int), .int .i64 (ls.length : Int), .slice A_US ps.length c_US] rfl ?hy 43 _ BK8.out ?hi ?ho ?h1 rfl HB.out (show w.heap.size ≤ g8_ from (by have h_ := ZZ.out; omega)) ?_
  case hy => rfl
  case hi => kernel_rfl
  case ho => rfl
  case h1 => first | rfl | (simp [Value.oneCell']; done) | (go_simp; done)
  intro w14_ bo hk hb2
  clear BK8
  replace LS := Aside0.mk (AR.kept LS.out hk (by have h_ := ZZ.out; omega))
  replace PS := Aside0.mk (AR.kept PS.out hk (by have h_ := ZZ.out; omega))
  replace BK5 := Aside0.mk (blk_keptIn BK5.out hk (by have h_ := ZZ.out; omega))
  replace RB := Aside0.mk (B_kept RB.out hk (by have h_ := ZZ.out; omega))
  replace BK6 := Aside0.mk (blk_keptIn BK6.out hk (by have h_ := ZZ.out; omega))
  replace PB := Aside0.mk (B_kept PB.out hk (by have h_ := ZZ.out; omega))
  replace BK7 := Aside0.mk (blk_keptIn BK7.out hk (by have h_ := ZZ.out; omega))
  replace US := Aside0.mk (AR.kept US.out hk (by have h_ := ZZ.out; omega))
  replace HB := Aside0.mk hb2
  clear hz_BK5_0 hz_BK5_1 hz_BK5_2 hz_BK5_3 hz_BK6_0 hz_BK6_1 hz_BK7_0 hz_BK7_1 hz_BK8_0 hz_BK8_1 hz_BK8_2 hz_BK8_3
  replace ZZ := Aside0.mk (And.intro ZZ.out (show w13_.heap.size ≤ w14_.heap.size from hk.1))
  have BK8 := Aside0.mk bo
  clear bo hk hb2
  have hz_BK5_0 : w14_.cell? ⟨g5_, 0, none⟩ = some (.int .i64 0) := (blk_cell BK5.out 0).trans rfl
  have hz_BK5_1 : w14_.cell? ⟨g5_, 1, none⟩ = some (.int .i64 (i : Int)) := (blk_cell BK5.out 1).trans rfl
  have hz_BK5_2 : w14_.cell? ⟨g5_, 2, none⟩ = some (.int .i64 (ls.length : Int)) := (blk_cell BK5.out 2).trans rfl
  have hz_BK5_3 : w14_.cell? ⟨g5_, 3, none⟩ = some (.slice A_PS ps.length c_PS) := (blk_cell BK5.out 3).trans rfl
  have hz_BK6_0 : w14_.cell? ⟨g6_, 0, none⟩ = some (.int .i64 0) := (blk_cell BK6.out 0).trans rfl
  have hz_BK6_1 : w14_.cell? ⟨g6_, 1, none⟩ = some (.slice A_RB rt.length c_RB) := (blk_cell BK6.out 1).trans rfl
  have hz_BK7_0 : w14_.cell? ⟨g7_, 0, none⟩ = some (.int .i64 0) := (blk_cell BK7.out 0).trans rfl
  have hz_BK7_1 : w14_.cell? ⟨g7_, 1, none⟩ = some (.slice A_PB pb.length c_PB) := (blk_cell BK7.out 1).trans rfl
  have hz_BK8_0 : w14_.cell? ⟨g8_, 0, none⟩ = some (.int .i64 0) := (blk_cell BK8.out 0).trans rfl
  have hz_BK8_1 : w14_.cell? ⟨g8_, 1, none⟩ = some (.int .i64 (i : Int)) := (blk_cell BK8.out 1).trans rfl
  have hz_BK8_2 : w14_.cell? ⟨g8_, 2, none⟩ = some (.int .i64 (ls.length : Int)) := (blk_cell BK8.out 2).trans rfl
  have hz_BK8_3 : w14_.cell? ⟨g8_, 3, none⟩ = some (.slice A_US ps.length c_US) := (blk_cell BK8.out 3).trans rfl
  go_wp2_with (first | (go_at_call 39; refine hold_here ?_))
  refine hold_go ?_
  refine (impl_PathLength.calls _ (ls.length : Int) (i : Int) nc (ps.length : Int) _ H_n.out).mono ?_
  rintro e w15_ ⟨rfl, hb⟩
  replace LS := Aside0.mk (AR.below LS.out hb)
  replace PS := Aside0.mk (AR.below PS.out hb)
  replace BK5 := Aside0.mk (blk_below BK5.out hb)
  replace RB := Aside0.mk (Kd.R_below RB.out hb)
  replace BK6 := Aside0.mk (blk_below BK6.out hb)
  replace PB := Aside0.mk (Kd.R_below PB.out hb)
  replace BK7 := Aside0.mk (blk_below BK7.out hb)
  replace US := Aside0.mk (AR.below US.out hb)
  replace BK8 := Aside0.mk (blk_below BK8.out hb)
  replace HB := Aside0.mk (below_step HB.out hb)
  clear hz_BK5_0 hz_BK5_1 hz_BK5_2 hz_BK5_3 hz_BK6_0 hz_BK6_1 hz_BK7_0 hz_BK7_1 hz_BK8_0 hz_BK8_1 hz_BK8_2 hz_BK8_3
  replace ZZ := Aside0.mk (And.intro ZZ.out (show w14_.heap.size ≤ w15_.heap.size from hb.size))
  clear hb
  have hz_BK5_0 : w15_.cell? ⟨g5_, 0, none⟩ = some (.int .i64 0) := (blk_cell BK5.out 0).trans rfl
  have hz_BK5_1 : w15_.cell? ⟨g5_, 1, none⟩ = some (.int .i64 (i : Int)) := (blk_cell BK5.out 1).trans rfl
  have hz_BK5_2 : w15_.cell? ⟨g5_, 2, none⟩ = some (.int .i64 (ls.length : Int)) := (blk_cell BK5.out 2).trans rfl
  have hz_BK5_3 : w15_.cell? ⟨g5_, 3, none⟩ = some (.slice A_PS ps.length c_PS) := (blk_cell BK5.out 3).trans rfl
  have hz_BK6_0 : w15_.cell? ⟨g6_, 0, none⟩ = some (.int .i64 0) := (blk_cell BK6.out 0).trans rfl
  have hz_BK6_1 : w15_.cell? ⟨g6_, 1, none⟩ = some (.slice A_RB rt.length c_RB) := (blk_cell BK6.out 1).trans rfl
  have hz_BK7_0 : w15_.cell? ⟨g7_, 0, none⟩ = some (.int .i64 0) := (blk_cell BK7.out 0).trans rfl
  have hz_BK7_1 : w15_.cell? ⟨g7_, 1, none⟩ = some (.slice A_PB pb.length c_PB) := (blk_cell BK7.out 1).trans rfl
  have hz_BK8_0 : w15_.cell? ⟨g8_, 0, none⟩ = some (.int .i64 0) := (blk_cell BK8.out 0).trans rfl
  have hz_BK8_1 : w15_.cell? ⟨g8_, 1, none⟩ = some (.int .i64 (i : Int)) := (blk_cell BK8.out 1).trans rfl
  have hz_BK8_2 : w15_.cell? ⟨g8_, 2, none⟩ = some (.int .i64 (ls.length : Int)) := (blk_cell BK8.out 2).trans rfl
  have hz_BK8_3 : w15_.cell? ⟨g8_, 3, none⟩ = some (.slice A_US ps.length c_US) := (blk_cell BK8.out 3).trans rfl
  go_wp2_with (first | ((with_reducible refine gate_dst (N := 9) rfl ?_); refine hold_here ?_))
  refine hold_go ?_
  refine box_event (N := 9) (cs := #[.int .i64 0, .int .i64 0]) (t := 59) ?hgb rfl ?hrb ?_
  case hgb => rfl
  case hrb => first | (go_simp; done) | (go_simp; rfl)
  intro g9_ hg w16_ hbox hb
  replace LS := Aside0.mk (AR.below LS.out hb)
  replace PS := Aside0.mk (AR.below PS.out hb)
  replace BK5 := Aside0.mk (blk_below BK5.out hb)
  replace RB := Aside0.mk (Kd.R_below RB.out hb)
  replace BK6 := Aside0.mk (blk_below BK6.out hb)
  replace PB := Aside0.mk (Kd.R_below PB.out hb)
  replace BK7 := Aside0.mk (blk_below BK7.out hb)
  replace US := Aside0.mk (AR.below US.out hb)
  replace BK8 := Aside0.mk (blk_below BK8.out hb)
  replace HB := Aside0.mk (below_step HB.out hb)
  clear hz_BK5_0 hz_BK5_1 hz_BK5_2 hz_BK5_3 hz_BK6_0 hz_BK6_1 hz_BK7_0 hz_BK7_1 hz_BK8_0 hz_BK8_1 hz_BK8_2 hz_BK8_3
  replace ZZ := Aside0.mk (And.intro ZZ.out (show w15_.heap.size ≤ w16_.heap.size from hb.size))
  have BK9 := Aside0.mk hbox
  replace ZZ := Aside0.mk (And.intro ZZ.out (And.intro (show g9_ = w15_.heap.size from hg) (show g9_ < w16_.heap.size from blk_lt hbox)))
  clear hb hbox hg
  have hz_BK5_0 : w16_.cell? ⟨g5_, 0, none⟩ = some (.int .i64 0) := (blk_cell BK5.out 0).trans rfl
  have hz_BK5_1 : w16_.cell? ⟨g5_, 1, none⟩ = some (.int .i64 (i : Int)) := (blk_cell BK5.out 1).trans rfl
  have hz_BK5_2 : w16_.cell? ⟨g5_, 2, none⟩ = some (.int .i64 (ls.length : Int)) := (blk_cell BK5.out 2).trans rfl
  have hz_BK5_3 : w16_.cell? ⟨g5_, 3, none⟩ = some (.slice A_PS ps.length c_PS) := (blk_cell BK5.out 3).trans rfl
  have hz_BK6_0 : w16_.cell? ⟨g6_, 0, none⟩ = some (.int .i64 0) := (blk_cell BK6.out 0).trans rfl
  have hz_BK6_1 : w16_.cell? ⟨g6_, 1, none⟩ = some (.slice A_RB rt.length c_RB) := (blk_cell BK6.out 1).trans rfl
  have hz_BK7_0 : w16_.cell? ⟨g7_, 0, none⟩ = some (.int .i64 0) := (blk_cell BK7.out 0).trans rfl
  have hz_BK7_1 : w16_.cell? ⟨g7_, 1, none⟩ = some (.slice A_PB pb.length c_PB) := (blk_cell BK7.out 1).trans rfl
  have hz_BK8_0 : w16_.cell? ⟨g8_, 0, none⟩ = some (.int .i64 0) := (blk_cell BK8.out 0).trans rfl
  have hz_BK8_1 : w16_.cell? ⟨g8_, 1, none⟩ = some (.int .i64 (i : Int)) := (blk_cell BK8.out 1).trans rfl
  have hz_BK8_2 : w16_.cell? ⟨g8_, 2, none⟩ = some (.int .i64 (ls.length : Int)) := (blk_cell BK8.out 2).trans rfl
  have hz_BK8_3 : w16_.cell? ⟨g8_, 3, none⟩ = some (.slice A_US ps.length c_US) := (blk_cell BK8.out 3).trans rfl
  have hz_BK9_0 : w16_.cell? ⟨g9_, 0, none⟩ = some (.int .i64 0) := (blk_cell BK9.out 0).trans rfl
  have hz_BK9_1 : w16_.cell? ⟨g9_, 1, none⟩ = some (.int .i64 0) := (blk_cell BK9.out 1).trans rfl
  go_wp2_with (first | ((with_reducible refine gate_store (t := 59) (p := 9) (v := .tmp 41) rfl ?_); refine hold_here ?_))
  refine hold_go ?_
  refine row_store rfl 59 (.tmp 9) (.tmp 41) rfl g9_ #[.int .i64 nc, .int .i64 (ps.length : Int)] rfl ?hy 59 _ BK9.out ?hi ?ho ?h1 rfl HB.out (show w.heap.size ≤ g9_ from (by have h_ := ZZ.out; omega)) ?_
  case hy => rfl
  case hi => kernel_rfl
  case ho => rfl
  case h1 => first | rfl | (simp [Value.oneCell']; done) | (go_simp; done)
  intro w17_ bo hk hb2
  clear BK9
  replace LS := Aside0.mk (AR.kept LS.out hk (by have h_ := ZZ.out; omega))
  replace PS := Aside0.mk (AR.kept PS.out hk (by have h_ := ZZ.out; omega))
  replace BK5 := Aside0.mk (blk_keptIn BK5.out hk (by have h_ := ZZ.out; omega))
  replace RB := Aside0.mk (B_kept RB.out hk (by have h_ := ZZ.out; omega))
  replace BK6 := Aside0.mk (blk_keptIn BK6.out hk (by have h_ := ZZ.out; omega))
  replace PB := Aside0.mk (B_kept PB.out hk (by have h_ := ZZ.out; omega))
  replace BK7 := Aside0.mk (blk_keptIn BK7.out hk (by have h_ := ZZ.out; omega))
  replace US := Aside0.mk (AR.kept US.out hk (by have h_ := ZZ.out; omega))
  replace BK8 := Aside0.mk (blk_keptIn BK8.out hk (by have h_ := ZZ.out; omega))
  replace HB := Aside0.mk hb2
  clear hz_BK5_0 hz_BK5_1 hz_BK5_2 hz_BK5_3 hz_BK6_0 hz_BK6_1 hz_BK7_0 hz_BK7_1 hz_BK8_0 hz_BK8_1 hz_BK8_2 hz_BK8_3 hz_BK9_0 hz_BK9_1
  replace ZZ := Aside0.mk (And.intro ZZ.out (show w16_.heap.size ≤ w17_.heap.size from hk.1))
  have BK9 := Aside0.mk bo
  clear bo hk hb2
  have hz_BK5_0 : w17_.cell? ⟨g5_, 0, none⟩ = some (.int .i64 0) := (blk_cell BK5.out 0).trans rfl
  have hz_BK5_1 : w17_.cell? ⟨g5_, 1, none⟩ = some (.int .i64 (i : Int)) := (blk_cell BK5.out 1).trans rfl
  have hz_BK5_2 : w17_.cell? ⟨g5_, 2, none⟩ = some (.int .i64 (ls.length : Int)) := (blk_cell BK5.out 2).trans rfl
  have hz_BK5_3 : w17_.cell? ⟨g5_, 3, none⟩ = some (.slice A_PS ps.length c_PS) := (blk_cell BK5.out 3).trans rfl
  have hz_BK6_0 : w17_.cell? ⟨g6_, 0, none⟩ = some (.int .i64 0) := (blk_cell BK6.out 0).trans rfl
  have hz_BK6_1 : w17_.cell? ⟨g6_, 1, none⟩ = some (.slice A_RB rt.length c_RB) := (blk_cell BK6.out 1).trans rfl
  have hz_BK7_0 : w17_.cell? ⟨g7_, 0, none⟩ = some (.int .i64 0) := (blk_cell BK7.out 0).trans rfl
  have hz_BK7_1 : w17_.cell? ⟨g7_, 1, none⟩ = some (.slice A_PB pb.length c_PB) := (blk_cell BK7.out 1).trans rfl
  have hz_BK8_0 : w17_.cell? ⟨g8_, 0, none⟩ = some (.int .i64 0) := (blk_cell BK8.out 0).trans rfl
  have hz_BK8_1 : w17_.cell? ⟨g8_, 1, none⟩ = some (.int .i64 (i : Int)) := (blk_cell BK8.out 1).trans rfl
  have hz_BK8_2 : w17_.cell? ⟨g8_, 2, none⟩ = some (.int .i64 (ls.length : Int)) := (blk_cell BK8.out 2).trans rfl
  have hz_BK8_3 : w17_.cell? ⟨g8_, 3, none⟩ = some (.slice A_US ps.length c_US) := (blk_cell BK8.out 3).trans rfl
  have hz_BK9_0 : w17_.cell? ⟨g9_, 0, none⟩ = some (.int .i64 nc) := (blk_cell BK9.out 0).trans rfl
  have hz_BK9_1 : w17_.cell? ⟨g9_, 1, none⟩ = some (.int .i64 (ps.length : Int)) := (blk_cell BK9.out 1).trans rfl
  obtain ⟨adl_, Bl_, dl_, eAl_, hxl_, hil_⟩ := word_own LS.out i H_i.out
  rw [H_l.out] at hxl_ hil_
  obtain ⟨A_LF, eLF_⟩ : ∃ A, A = Bl_ := ⟨_, rfl⟩
  subst eLF_
  obtain ⟨c_LF, eLC_⟩ : ∃ c, c = dl_ := ⟨_, rfl⟩
  subst eLC_
  have LF := Aside0.mk hil_
  clear hil_
  try go_wp2_with fail
  subst eAl_
  replace LS := Aside0.mk (AR.drew LS.out)
  replace PS := Aside0.mk (AR.drew PS.out)
  replace BK5 := Aside0.mk (blk_drew BK5.out)
  replace RB := Aside0.mk (Kd.R_drew RB.out)
  replace BK6 := Aside0.mk (blk_drew BK6.out)
  replace PB := Aside0.mk (Kd.R_drew PB.out)
  replace BK7 := Aside0.mk (blk_drew BK7.out)
  replace US := Aside0.mk (AR.drew US.out)
  replace BK8 := Aside0.mk (blk_drew BK8.out)
  replace BK9 := Aside0.mk (blk_drew BK9.out)
  replace LF := Aside0.mk (Kd.R_drew LF.out)
  replace HB := Aside0.mk (below_drew1 HB.out)
  replace ZZ := Aside0.mk (And.intro ZZ.out (show w17_.heap.size ≤ w17_.drew.heap.size from Nat.le_refl _))
  clear hz_BK5_0 hz_BK5_1 hz_BK5_2 hz_BK5_3 hz_BK6_0 hz_BK6_1 hz_BK7_0 hz_BK7_1 hz_BK8_0 hz_BK8_1 hz_BK8_2 hz_BK8_3 hz_BK9_0 hz_BK9_1
  refine start_ (n := 45) (S := fun w' => w'.cell? (⟨g6_, 0, none⟩) = some (.int .i64 0) ∧ w'.cell? (⟨g6_, 1, none⟩) = some (.slice A_RB rt.length c_RB) ∧ w'.cell? (⟨g5_, 0, none⟩) = some (.int .i64 0) ∧ w'.cell? (⟨g5_, 1, none⟩) = some (.int .i64 (i : Int)) ∧ w'.cell? (⟨g5_, 2, none⟩) = some (.int .i64 (ls.length : Int)) ∧ w'.cell? (⟨g5_, 3, none⟩) = some (.slice A_PS ps.length c_PS) ∧ w'.cell? (⟨g7_, 0, none⟩) = some (.int .i64 0) ∧ w'.cell? (⟨g8_, 0, none⟩) = some (.int .i64 0) ∧ w'.cell? (⟨g8_, 1, none⟩) = some (.int .i64 (i : Int)) ∧ w'.cell? (⟨g8_, 2, none⟩) = some (.int .i64 (ls.length : Int)) ∧ w'.cell? (⟨g8_, 3, none⟩) = some (.slice A_US ps.length c_US) ∧ w'.cell? (⟨g9_, 1, none⟩) = some (.int .i64 (ps.length : Int)) ∧ w'.cell? (adl_.add i) = some (.slice A_LF lf.length c_LF)) (ds := []) #[false, false, false, false, false, false, false, false, false, false, false, false, false, false, false, false, false, false, false, false, false, false, false, false, false, false, false, false, false, false, false, false, false, false, false, false, false, false, false, false, false, false, false, false, false] (by kernel_rfl) rfl rfl ⟨(blk_cell BK6.out 0).trans rfl, (blk_cell BK6.out 1).trans rfl, (blk_cell BK5.out 0).trans rfl, (blk_cell BK5.out 1).trans rfl, (blk_cell BK5.out 2).trans rfl, (blk_cell BK5.out 3).trans rfl, (blk_cell BK7.out 0).trans rfl, (blk_cell BK8.out 0).trans rfl, (blk_cell BK8.out 1).trans rfl, (blk_cell BK8.out 2).trans rfl, (blk_cell BK8.out 3).trans rfl, (blk_cell BK9.out 1).trans rfl, hxl_⟩ (fun hHeld => ?_)
  generalize w17_.drew = w18_ at LS PS BK5 RB BK6 PB BK7 US BK8 BK9 LF HB ZZ hHeld ⊢
  clear hxl_
  refine pure_ (i := 0) (N := some 42) (v := ?_) (a' := ?_) #[true, false, false, false, false, false, false, false, false, false, false, false, false, false, false, false, false, false, false, false, false, false, false, false, false, false, false, false, false, false, false, false, false, false, false, false, false, false, false, false, false, false, false, false, false] rfl rfl (by kernel_rfl) (fun _ _ _ h => h) (Or.inl ⟨by rfl, ?_⟩) ?_ ?_
  rotate_left
  · intro w'
    go_simp
    with_reducible rfl
  rotate_left
  · simp only [Act.put, List.setIfInBounds_toArray, List.set_cons_zero, List.set_cons_succ, i64_w, i32_w]
    rfl
  refine take_ (i := 1) (N := some 43) (v := ?_) (a' := ?_) #[true, true, false, false, false, false, false, false, false, false, false, false, false, false, false, false, false, false, false, false, false, false, false, false, false, false, false, false, false, false, false, false, false, false, false, false, false, false, false, false, false, false, false, false, false] rfl rfl (by kernel_rfl) (fun _ _ _ h => h) (Or.inl ⟨by rfl, ?_⟩) hHeld ?_ ?_
  rotate_left
  · rintro w' ⟨s0, s1, s2, s3, s4, s5, s6, s7, s8, s9, s10, s11, s12⟩
    go_simp
    with_reducible rfl
  rotate_left
  · simp only [Act.put, List.setIfInBounds_toArray, List.set_cons_zero, List.set_cons_succ, i64_w, i32_w]
    rfl
  refine pure_ (i := 2) (N := some 44) (v := ?_) (a' := ?_) #[true, true, true, false, false, false, false, false, false, false, false, false, false, false, false, false, false, false, false, false, false, false, false, false, false, false, false, false, false, false, false, false, false, false, false, false, false, false, false, false, false, false, false, false, false] rfl rfl (by kernel_rfl) (fun _ _ _ h => h) (Or.inl ⟨by rfl, ?_⟩) ?_ ?_
  rotate_left
  · intro w'
    go_simp
    with_reducible rfl
  rotate_left
  · simp only [Act.put, List.setIfInBounds_toArray, List.set_cons_zero, List.set_cons_succ, i64_w, i32_w]
    rfl
  refine pure_ (i := 3) (N := some 45) (v := ?_) (a' := ?_) #[true, true, true, true, false, false, false, false, false, false, false, false, false, false, false, false, false, false, false, false, false, false, false, false, false, false, false, false, false, false, false, false, false, false, false, false, false, false, false, false, false, false, false, false, false] rfl rfl (by kernel_rfl) (fun _ _ _ h => h) (Or.inl ⟨by rfl, ?_⟩) ?_ ?_
  rotate_left
  · intro w'
    go_simp
    with_reducible rfl
  rotate_left
  · simp only [Act.put, List.setIfInBounds_toArray, List.set_cons_zero, List.set_cons_succ, i64_w, i32_w]
    rfl
  refine pure_ (i := 4) (N := some 46) (v := ?_) (a' := ?_) #[true, true, true, true, true, false, false, false, false, false, false, false, false, false, false, false, false, false, false, false, false, false, false, false, false, false, false, false, false, false, false, false, false, false, false, false, false, false, false, false, false, false, false, false, false] rfl rfl (by kernel_rfl) (fun _ _ _ h => h) (Or.inl ⟨by rfl, ?_⟩) ?_ ?_
  rotate_left
  · intro w'
    go_simp
    with_reducible rfl
  rotate_left
  · simp only [Act.put, List.setIfInBounds_toArray, List.set_cons_zero, List.set_cons_succ, i64_w, i32_w]
    rfl
  refine take_ (i := 5) (N := some 47) (v := ?_) (a' := ?_) #[true, true, true, true, true, true, false, false, false, false, false, false, false, false, false, false, false, false, false, false, false, false, false, false, false, false, false, false, false, false, false, false, false, false, false, false, false, false, false, false, false, false, false, false, false] rfl rfl (by kernel_rfl) (fun _ _ _ h => h) (Or.inl ⟨by rfl, ?_⟩) hHeld ?_ ?_
  rotate_left
  · rintro w' ⟨s0, s1, s2, s3, s4, s5, s6, s7, s8, s9, s10, s11, s12⟩
    go_simp
    with_reducible rfl
  rotate_left
  · simp only [Act.put, List.setIfInBounds_toArray, List.set_cons_zero, List.set_cons_succ, i64_w, i32_w]
    rfl
  refine pure_ (i := 6) (N := some 48) (v := ?_) (a' := ?_) #[true, true, true, true, true, true, true, false, false, false, false, false, false, false, false, false, false, false, false, false, false, false, false, false, false, false, false, false, false, false, false, false, false, false, false, false, false, false, false, false, false, false, false, false, false] rfl rfl (by kernel_rfl) (fun _ _ _ h => h) (Or.inl ⟨by rfl, ?_⟩) ?_ ?_
  rotate_left
  · intro w'
    go_simp
    with_reducible rfl
  rotate_left
  · simp only [Act.put, List.setIfInBounds_toArray, List.set_cons_zero, List.set_cons_succ, i64_w, i32_w]
    rfl
  refine pure_ (i := 7) (N := some 49) (v := ?_) (a' := ?_) #[true, true, true, true, true, true, true, true, false, false, false, false, false, false, false, false, false, false, false, false, false, false, false, false, false, false, false, false, false, false, false, false, false, false, false, false, false, false, false, false, false, false, false, false, false] rfl rfl (by kernel_rfl) (fun _ _ _ h => h) (Or.inl ⟨by rfl, ?_⟩) ?_ ?_
  rotate_left
  · intro w'
    go_simp
    with_reducible rfl
  rotate_left
  · simp only [Act.put, List.setIfInBounds_toArray, List.set_cons_zero, List.set_cons_succ, i64_w, i32_w]
    rfl
  refine pure_ (i := 8) (N := some 50) (v := ?_) (a' := ?_) #[true, true, true, true, true, true, true, true, true, false, false, false, false, false, false, false, false, false, false, false, false, false, false, false, false, false, false, false, false, false, false, false, false, false, false, false, false, false, false, false, false, false, false, false, false] rfl rfl (by kernel_rfl) (fun _ _ _ h => h) (Or.inl ⟨by rfl, ?_⟩) ?_ ?_
  rotate_left
  · intro w'
    go_simp
    with_reducible rfl
  rotate_left
  · simp only [Act.put, List.setIfInBounds_toArray, List.set_cons_zero, List.set_cons_succ, i64_w, i32_w]
    rfl
  refine take_ (i := 9) (N := some 51) (v := ?_) (a' := ?_) #[true, true, true, true, true, true, true, true, true, true, false, false, false, false, false, false, false, false, false, false, false, false, false, false, false, false, false, false, false, false, false, false, false, false, false, false, false, false, false, false, false, false, false, false, false] rfl rfl (by kernel_rfl) (fun _ _ _ h => h) (Or.inl ⟨by rfl, ?_⟩) hHeld ?_ ?_
  rotate_left
  · rintro w' ⟨s0, s1, s2, s3, s4, s5, s6, s7, s8, s9, s10, s11, s12⟩
    go_simp
    with_reducible rfl
  rotate_left
  · simp only [Act.put, List.setIfInBounds_toArray, List.set_cons_zero, List.set_cons_succ, i64_w, i32_w]
    rfl
  refine pure_ (i := 10) (N := some 52) (v := ?_) (a' := ?_) #[true, true, true, true, true, true, true, true, true, true, true, false, false, false, false, false, false, false, false, false, false, false, false, false, false, false, false, false, false, false, false, false, false, false, false, false, false, false, false, false, false, false, false, false, false] rfl rfl (by kernel_rfl) (fun _ _ _ h => h) (Or.inl ⟨by rfl, ?_⟩) ?_ ?_
  rotate_left
  · intro w'
    go_simp
    with_reducible rfl
  rotate_left
  · simp only [Act.put, List.setIfInBounds_toArray, List.set_cons_zero, List.set_cons_succ, i64_w, i32_w]
    rfl
  refine take_ (i := 11) (N := some 53) (v := ?_) (a' := ?_) #[true, true, true, true, true, true, true, true, true, true, true, true, false, false, false, false, false, false, false, false, false, false, false, false, false, false, false, false, false, false, false, false, false, false, false, false, false, false, false, false, false, false, false, false, false] rfl rfl (by kernel_rfl) (fun _ _ _ h => h) (Or.inl ⟨by rfl, ?_⟩) hHeld ?_ ?_
  rotate_left
  · rintro w' ⟨s0, s1, s2, s3, s4, s5, s6, s7, s8, s9, s10, s11, s12⟩
    go_simp
    with_reducible rfl
  rotate_left
  · simp only [Act.put, List.setIfInBounds_toArray, List.set_cons_zero, List.set_cons_succ, i64_w, i32_w]
    rfl
  refine one_ (i := 12) (N := some 54) #[true, true, true, true, true, true, true, true, true, true, true, true, true, false, false, false, false, false, false, false, false, false, false, false, false, false, false, false, false, false, false, false, false, false, false, false, false, false, false, false, false, false, false, false, false] rfl rfl (by kernel_rfl) (by decide) (fun K hK => ?_)
  refine goes_ Try.func33 (by kernel_rfl) rfl #[.slice A_RB rt.length c_RB, .slice A_LF lf.length c_LF, .agg #[.int .i64 (i : Int), .int .i64 (ls.length : Int), .slice A_PS ps.length c_PS]] (by rfl) rfl rfl (by (try simp only [List.map_toArray, List.map_cons, List.map_nil]); first | done | rfl) ?_
  refine (impl_CheckProof.calls _ A_RB c_RB rt A_LF c_LF lf (i : Int) (ls.length : Int) A_PS c_PS ps true _ ?s1 ?s2 ?s3 ?s4 ?s5 ?s6 H_c.out).mono ?_
  case s1 => exact (Kd.R_reads' RB.out).2.2
  case s2 => exact (Kd.R_reads' RB.out).2.1
  case s3 => exact (Kd.R_reads' LF.out).2.2
  case s4 => exact (Kd.R_reads' LF.out).2.1
  case s5 => exact Kd.F_now (AR.foot PS.out)
  case s6 => exact HC_PS.out
  rintro e w19_ ⟨rfl, hb⟩
  refine ⟨_, rfl, ?_⟩
  have hS_ : (fun w' : World => w'.cell? (⟨g6_, 0, none⟩) = some (.int .i64 0) ∧ w'.cell? (⟨g6_, 1, none⟩) = some (.slice A_RB rt.length c_RB) ∧ w'.cell? (⟨g5_, 0, none⟩) = some (.int .i64 0) ∧ w'.cell? (⟨g5_, 1, none⟩) = some (.int .i64 (i : Int)) ∧ w'.cell? (⟨g5_, 2, none⟩) = some (.int .i64 (ls.length : Int)) ∧ w'.cell? (⟨g5_, 3, none⟩) = some (.slice A_PS ps.length c_PS) ∧ w'.cell? (⟨g7_, 0, none⟩) = some (.int .i64 0) ∧ w'.cell? (⟨g8_, 0, none⟩) = some (.int .i64 0) ∧ w'.cell? (⟨g8_, 1, none⟩) = some (.int .i64 (i : Int)) ∧ w'.cell? (⟨g8_, 2, none⟩) = some (.int .i64 (ls.length : Int)) ∧ w'.cell? (⟨g8_, 3, none⟩) = some (.slice A_US ps.length c_US) ∧ w'.cell? (⟨g9_, 1, none⟩) = some (.int .i64 (ps.length : Int)) ∧ w'.cell? (adl_.add i) = some (.slice A_LF lf.length c_LF)) w19_ := by
    obtain ⟨s0, s1, s2, s3, s4, s5, s6, s7, s8, s9, s10, s11, s12⟩ := hHeld
    exact ⟨(hb.cell (World.block_lt_of_cell? _ _ s0)).trans s0, (hb.cell (World.block_lt_of_cell? _ _ s1)).trans s1, (hb.cell (World.block_lt_of_cell? _ _ s2)).trans s2, (hb.cell (World.block_lt_of_cell? _ _ s3)).trans s3, (hb.cell (World.block_lt_of_cell? _ _ s4)).trans s4, (hb.cell (World.block_lt_of_cell? _ _ s5)).trans s5, (hb.cell (World.block_lt_of_cell? _ _ s6)).trans s6, (hb.cell (World.block_lt_of_cell? _ _ s7)).trans s7, (hb.cell (World.block_lt_of_cell? _ _ s8)).trans s8, (hb.cell (World.block_lt_of_cell? _ _ s9)).trans s9, (hb.cell (World.block_lt_of_cell? _ _ s10)).trans s10, (hb.cell (World.block_lt_of_cell? _ _ s11)).trans s11, (hb.cell (World.block_lt_of_cell? _ _ s12)).trans s12⟩
  replace LS := Aside0.mk (AR.below LS.out hb)
  replace PS := Aside0.mk (AR.below PS.out hb)
  replace BK5 := Aside0.mk (blk_below BK5.out hb)
  replace RB := Aside0.mk (Kd.R_below RB.out hb)
  replace BK6 := Aside0.mk (blk_below BK6.out hb)
  replace PB := Aside0.mk (Kd.R_below PB.out hb)
  replace BK7 := Aside0.mk (blk_below BK7.out hb)
  replace US := Aside0.mk (AR.below US.out hb)
  replace BK8 := Aside0.mk (blk_below BK8.out hb)
  replace BK9 := Aside0.mk (blk_below BK9.out hb)
  replace LF := Aside0.mk (Kd.R_below LF.out hb)
  replace HB := Aside0.mk (below_step HB.out hb)
  replace ZZ := Aside0.mk (And.intro ZZ.out (show w18_.heap.size ≤ w19_.heap.size from hb.size))
  refine hK.out _ _ hS_ (fun hHeld2 => ?_)
  clear hK K hHeld hS_ hb
  have hHeld := hHeld2
  clear hHeld2
  refine norm_ (a' := ?_) ?_ ?_
  rotate_left
  · show Act.put _ (some 54) _ = _
    simp only [Act.put, List.setIfInBounds_toArray, List.set_cons_zero, List.set_cons_succ, i64_w, i32_w]
    rfl
  refine pure_ (i := 13) (N := some 55) (v := ?_) (a' := ?_) #[true, true, true, true, true, true, true, true, true, true, true, true, true, true, false, false, false, false, false, false, false, false, false, false, false, false, false, false, false, false, false, false, false, false, false, false, false, false, false, false, false, false, false, false, false] rfl rfl (by kernel_rfl) (fun _ _ _ h => h) (Or.inl ⟨by rfl, ?_⟩) ?_ ?_
  rotate_left
  · intro w'
    go_simp
    with_reducible rfl
  rotate_left
  · simp only [Act.put, List.setIfInBounds_toArray, List.set_cons_zero, List.set_cons_succ, i64_w, i32_w]
    rfl
  refine pure_ (i := 14) (N := some 56) (v := ?_) (a' := ?_) #[true, true, true, true, true, true, true, true, true, true, true, true, true, true, true, false, false, false, false, false, false, false, false, false, false, false, false, false, false, false, false, false, false, false, false, false, false, false, false, false, false, false, false, false, false] rfl rfl (by kernel_rfl) (fun _ _ _ h => h) (Or.inl ⟨by rfl, ?_⟩) ?_ ?_
  rotate_left
  · intro w'
    go_simp
    with_reducible rfl
  rotate_left
  · simp only [Act.put, List.setIfInBounds_toArray, List.set_cons_zero, List.set_cons_succ, i64_w, i32_w]
    rfl
  refine pure_ (i := 15) (N := some 57) (v := ?_) (a' := ?_) #[true, true, true, true, true, true, true, true, true, true, true, true, true, true, true, true, false, false, false, false, false, false, false, false, false, false, false, false, false, false, false, false, false, false, false, false, false, false, false, false, false, false, false, false, false] rfl rfl (by kernel_rfl) (fun _ _ _ h => h) (Or.inl ⟨by rfl, ?_⟩) ?_ ?_
  rotate_left
  · intro w'
    go_simp
    with_reducible rfl
  rotate_left
  · simp only [Act.put, List.setIfInBounds_toArray, List.set_cons_zero, List.set_cons_succ, i64_w, i32_w]
    rfl
  refine take_ (i := 16) (N := some 58) (v := ?_) (a' := ?_) #[true, true, true, true, true, true, true, true, true, true, true, true, true, true, true, true, true, false, false, false, false, false, false, false, false, false, false, false, false, false, false, false, false, false, false, false, false, false, false, false, false, false, false, false, false] rfl rfl (by kernel_rfl) (fun _ _ _ h => h) (Or.inl ⟨by rfl, ?_⟩) hHeld ?_ ?_
  rotate_left
  · rintro w' ⟨s0, s1, s2, s3, s4, s5, s6, s7, s8, s9, s10, s11, s12⟩
    go_simp
    with_reducible rfl
  rotate_left
  · simp only [Act.put, List.setIfInBounds_toArray, List.set_cons_zero, List.set_cons_succ, i64_w, i32_w]
    rfl
  refine pure_ (i := 17) (N := some 59) (v := ?_) (a' := ?_) #[true, true, true, true, true, true, true, true, true, true, true, true, true, true, true, true, true, true, false, false, false, false, false, false, false, false, false, false, false, false, false, false, false, false, false, false, false, false, false, false, false, false, false, false, false] rfl rfl (by kernel_rfl) (fun _ _ _ h => h) (Or.inl ⟨by rfl, ?_⟩) ?_ ?_
  rotate_left
  · intro w'
    go_simp
    with_reducible rfl
  rotate_left
  · simp only [Act.put, List.setIfInBounds_toArray, List.set_cons_zero, List.set_cons_succ, i64_w, i32_w]
    rfl
  refine pure_ (i := 18) (N := some 60) (v := ?_) (a' := ?_) #[true, true, true, true, true, true, true, true, true, true, true, true, true, true, true, true, true, true, true, false, false, false, false, false, false, false, false, false, false, false, false, false, false, false, false, false, false, false, false, false, false, false, false, false, false] rfl rfl (by kernel_rfl) (fun _ _ _ h => h) (Or.inl ⟨by rfl, ?_⟩) ?_ ?_
  rotate_left
  · intro w'
    go_simp
    with_reducible rfl
  rotate_left
  · simp only [Act.put, List.setIfInBounds_toArray, List.set_cons_zero, List.set_cons_succ, i64_w, i32_w]
    rfl
  refine pure_ (i := 19) (N := some 61) (v := ?_) (a' := ?_) #[true, true, true, true, true, true, true, true, true, true, true, true, true, true, true, true, true, true, true, true, false, false, false, false, false, false, false, false, false, false, false, false, false, false, false, false, false, false, false, false, false, false, false, false, false] rfl rfl (by kernel_rfl) (fun _ _ _ h => h) (Or.inl ⟨by rfl, ?_⟩) ?_ ?_
  rotate_left
  · intro w'
    go_simp
    with_reducible rfl
  rotate_left
  · simp only [Act.put, List.setIfInBounds_toArray, List.set_cons_zero, List.set_cons_succ, i64_w, i32_w]
    rfl
  refine pure_ (i := 20) (N := some 62) (v := ?_) (a' := ?_) #[true, true, true, true, true, true, true, true, true, true, true, true, true, true, true, true, true, true, true, true, true, false, false, false, false, false, false, false, false, false, false, false, false, false, false, false, false, false, false, false, false, false, false, false, false] rfl rfl (by kernel_rfl) (fun _ _ _ h => h) (Or.inl ⟨by rfl, ?_⟩) ?_ ?_
  rotate_left
  · intro w'
    go_simp
    with_reducible rfl
  rotate_left
  · simp only [Act.put, List.setIfInBounds_toArray, List.set_cons_zero, List.set_cons_succ, i64_w, i32_w]
    rfl
  refine take_ (i := 21) (N := some 63) (v := ?_) (a' := ?_) #[true, true, true, true, true, true, true, true, true, true, true, true, true, true, true, true, true, true, true, true, true, true, false, false, false, false, false, false, false, false, false, false, false, false, false, false, false, false, false, false, false, false, false, false, false] rfl rfl (by kernel_rfl) (fun _ _ _ h => h) (Or.inl ⟨by rfl, ?_⟩) hHeld ?_ ?_
  rotate_left
  · rintro w' ⟨s0, s1, s2, s3, s4, s5, s6, s7, s8, s9, s10, s11, s12⟩
    go_simp
    with_reducible rfl
  rotate_left
  · simp only [Act.put, List.setIfInBounds_toArray, List.set_cons_zero, List.set_cons_succ, i64_w, i32_w]
    rfl
  refine pure_ (i := 22) (N := some 64) (v := ?_) (a' := ?_) #[true, true, true, true, true, true, true, true, true, true, true, true, true, true, true, true, true, true, true, true, true, true, true, false, false, false, false, false, false, false, false, false, false, false, false, false, false, false, false, false, false, false, false, false, false] rfl rfl (by kernel_rfl) (fun _ _ _ h => h) (Or.inl ⟨by rfl, ?_⟩) ?_ ?_
  rotate_left
  · intro w'
    go_simp
    with_reducible rfl
  rotate_left
  · simp only [Act.put, List.setIfInBounds_toArray, List.set_cons_zero, List.set_cons_succ, i64_w, i32_w]
    rfl
  refine pure_ (i := 23) (N := some 65) (v := ?_) (a' := ?_) #[true, true, true, true, true, true, true, true, true, true, true, true, true, true, true, true, true, true, true, true, true, true, true, true, false, false, false, false, false, false, false, false, false, false, false, false, false, false, false, false, false, false, false, false, false] rfl rfl (by kernel_rfl) (fun _ _ _ h => h) (Or.inl ⟨by rfl, ?_⟩) ?_ ?_
  rotate_left
  · intro w'
    go_simp
    with_reducible rfl
  rotate_left
  · simp only [Act.put, List.setIfInBounds_toArray, List.set_cons_zero, List.set_cons_succ, i64_w, i32_w]
    rfl
  refine pure_ (i := 24) (N := some 66) (v := ?_) (a' := ?_) #[true, true, true, true, true, true, true, true, true, true, true, true, true, true, true, true, true, true, true, true, true, true, true, true, true, false, false, false, false, false, false, false, false, false, false, false, false, false, false, false, false, false, false, false, false] rfl rfl (by kernel_rfl) (fun _ _ _ h => h) (Or.inl ⟨by rfl, ?_⟩) ?_ ?_
  rotate_left
  · intro w'
    go_simp
    with_reducible rfl
  rotate_left
  · simp only [Act.put, List.setIfInBounds_toArray, List.set_cons_zero, List.set_cons_succ, i64_w, i32_w]
    rfl
  refine pure_ (i := 25) (N := some 67) (v := ?_) (a' := ?_) #[true, true, true, true, true, true, true, true, true, true, true, true, true, true, true, true, true, true, true, true, true, true, true, true, true, true, false, false, false, false, false, false, false, false, false, false, false, false, false, false, false, false, false, false, false] rfl rfl (by kernel_rfl) (fun _ _ _ h => h) (Or.inl ⟨by rfl, ?_⟩) ?_ ?_
  rotate_left
  · intro w'
    go_simp
    with_reducible rfl
  rotate_left
  · simp only [Act.put, List.setIfInBounds_toArray, List.set_cons_zero, List.set_cons_succ, i64_w, i32_w]
    rfl
  refine take_ (i := 26) (N := some 68) (v := ?_) (a' := ?_) #[true, true, true, true, true, true, true, true, true, true, true, true, true, true, true, true, true, true, true, true, true, true, true, true, true, true, true, false, false, false, false, false, false, false, false, false, false, false, false, false, false, false, false, false, false] rfl rfl (by kernel_rfl) (fun _ _ _ h => h) (Or.inl ⟨by rfl, ?_⟩) hHeld ?_ ?_
  rotate_left
  · rintro w' ⟨s0, s1, s2, s3, s4, s5, s6, s7, s8, s9, s10, s11, s12⟩
    go_simp
    with_reducible rfl
  rotate_left
  · simp only [Act.put, List.setIfInBounds_toArray, List.set_cons_zero, List.set_cons_succ, i64_w, i32_w]
    rfl
  refine pure_ (i := 27) (N := some 69) (v := ?_) (a' := ?_) #[true, true, true, true, true, true, true, true, true, true, true, true, true, true, true, true, true, true, true, true, true, true, true, true, true, true, true, true, false, false, false, false, false, false, false, false, false, false, false, false, false, false, false, false, false] rfl rfl (by kernel_rfl) (fun _ _ _ h => h) (Or.inl ⟨by rfl, ?_⟩) ?_ ?_
  rotate_left
  · intro w'
    go_simp
    with_reducible rfl
  rotate_left
  · simp only [Act.put, List.setIfInBounds_toArray, List.set_cons_zero, List.set_cons_succ, i64_w, i32_w]
    rfl
  refine pure_ (i := 28) (N := some 70) (v := ?_) (a' := ?_) #[true, true, true, true, true, true, true, true, true, true, true, true, true, true, true, true, true, true, true, true, true, true, true, true, true, true, true, true, true, false, false, false, false, false, false, false, false, false, false, false, false, false, false, false, false] rfl rfl (by kernel_rfl) (fun _ _ _ h => h) (Or.inl ⟨by rfl, ?_⟩) ?_ ?_
  rotate_left
  · intro w'
    go_simp
    with_reducible rfl
  rotate_left
  · simp only [Act.put, List.setIfInBounds_toArray, List.set_cons_zero, List.set_cons_succ, i64_w, i32_w]
    rfl
  refine pure_ (i := 29) (N := some 71) (v := ?_) (a' := ?_) #[true, true, true, true, true, true, true, true, true, true, true, true, true, true, true, true, true, true, true, true, true, true, true, true, true, true, true, true, true, true, false, false, false, false, false, false, false, false, false, false, false, false, false, false, false] rfl rfl (by kernel_rfl) (fun _ _ _ h => h) (Or.inl ⟨by rfl, ?_⟩) ?_ ?_
  rotate_left
  · intro w'
    go_simp
    with_reducible rfl
  rotate_left
  · simp only [Act.put, List.setIfInBounds_toArray, List.set_cons_zero, List.set_cons_succ, i64_w, i32_w]
    rfl
  refine take_ (i := 30) (N := some 72) (v := ?_) (a' := ?_) #[true, true, true, true, true, true, true, true, true, true, true, true, true, true, true, true, true, true, true, true, true, true, true, true, true, true, true, true, true, true, true, false, false, false, false, false, false, false, false, false, false, false, false, false, false] rfl rfl (by kernel_rfl) (fun _ _ _ h => h) (Or.inl ⟨by rfl, ?_⟩) hHeld ?_ ?_
  rotate_left
  · rintro w' ⟨s0, s1, s2, s3, s4, s5, s6, s7, s8, s9, s10, s11, s12⟩
    go_simp
    with_reducible rfl
  rotate_left
  · simp only [Act.put, List.setIfInBounds_toArray, List.set_cons_zero, List.set_cons_succ, i64_w, i32_w]
    rfl
  refine pure_ (i := 31) (N := some 73) (v := ?_) (a' := ?_) #[true, true, true, true, true, true, true, true, true, true, true, true, true, true, true, true, true, true, true, true, true, true, true, true, true, true, true, true, true, true, true, true, false, false, false, false, false, false, false, false, false, false, false, false, false] rfl rfl (by kernel_rfl) (fun _ _ _ h => h) (Or.inl ⟨by rfl, ?_⟩) ?_ ?_
  rotate_left
  · intro w'
    go_simp
    with_reducible rfl
  rotate_left
  · simp only [Act.put, List.setIfInBounds_toArray, List.set_cons_zero, List.set_cons_succ, i64_w, i32_w]
    rfl
  refine take_ (i := 32) (N := some 74) (v := ?_) (a' := ?_) #[true, true, true, true, true, true, true, true, true, true, true, true, true, true, true, true, true, true, true, true, true, true, true, true, true, true, true, true, true, true, true, true, true, false, false, false, false, false, false, false, false, false, false, false, false] rfl rfl (by kernel_rfl) (fun _ _ _ h => h) (Or.inl ⟨by rfl, ?_⟩) hHeld ?_ ?_
  rotate_left
  · rintro w' ⟨s0, s1, s2, s3, s4, s5, s6, s7, s8, s9, s10, s11, s12⟩
    go_simp
    with_reducible rfl
  rotate_left
  · simp only [Act.put, List.setIfInBounds_toArray, List.set_cons_zero, List.set_cons_succ, i64_w, i32_w]
    rfl
  refine one_ (i := 33) (N := some 75) #[true, true, true, true, true, true, true, true, true, true, true, true, true, true, true, true, true, true, true, true, true, true, true, true, true, true, true, true, true, true, true, true, true, true, false, false, false, false, false, false, false, false, false, false, false] rfl rfl (by kernel_rfl) (by decide) (fun K hK => ?_)
  refine goes_ Try.func33 (by kernel_rfl) rfl #[.slice A_RB rt.length c_RB, .slice A_LF lf.length c_LF, .agg #[.int .i64 (i : Int), .int .i64 (ls.length : Int), .slice A_US ps.length c_US]] (by rfl) rfl rfl (by (try simp only [List.map_toArray, List.map_cons, List.map_nil]); first | done | rfl) ?_
  refine (impl_CheckProof.calls _ A_RB c_RB rt A_LF c_LF lf (i : Int) (ls.length : Int) A_US c_US ps true _ ?s1 ?s2 ?s3 ?s4 ?s5 ?s6 H_c.out).mono ?_
  case s1 => exact (Kd.R_reads' RB.out).2.2
  case s2 => exact (Kd.R_reads' RB.out).2.1
  case s3 => exact (Kd.R_reads' LF.out).2.2
  case s4 => exact (Kd.R_reads' LF.out).2.1
  case s5 => exact Kd.F_now (AR.foot US.out)
  case s6 => exact HC_US.out
  rintro e w20_ ⟨rfl, hb⟩
  refine ⟨_, rfl, ?_⟩
  have hS_ : (fun w' : World => w'.cell? (⟨g6_, 0, none⟩) = some (.int .i64 0) ∧ w'.cell? (⟨g6_, 1, none⟩) = some (.slice A_RB rt.length c_RB) ∧ w'.cell? (⟨g5_, 0, none⟩) = some (.int .i64 0) ∧ w'.cell? (⟨g5_, 1, none⟩) = some (.int .i64 (i : Int)) ∧ w'.cell? (⟨g5_, 2, none⟩) = some (.int .i64 (ls.length : Int)) ∧ w'.cell? (⟨g5_, 3, none⟩) = some (.slice A_PS ps.length c_PS) ∧ w'.cell? (⟨g7_, 0, none⟩) = some (.int .i64 0) ∧ w'.cell? (⟨g8_, 0, none⟩) = some (.int .i64 0) ∧ w'.cell? (⟨g8_, 1, none⟩) = some (.int .i64 (i : Int)) ∧ w'.cell? (⟨g8_, 2, none⟩) = some (.int .i64 (ls.length : Int)) ∧ w'.cell? (⟨g8_, 3, none⟩) = some (.slice A_US ps.length c_US) ∧ w'.cell? (⟨g9_, 1, none⟩) = some (.int .i64 (ps.length : Int)) ∧ w'.cell? (adl_.add i) = some (.slice A_LF lf.length c_LF)) w20_ := by
    obtain ⟨s0, s1, s2, s3, s4, s5, s6, s7, s8, s9, s10, s11, s12⟩ := hHeld
    exact ⟨(hb.cell (World.block_lt_of_cell? _ _ s0)).trans s0, (hb.cell (World.block_lt_of_cell? _ _ s1)).trans s1, (hb.cell (World.block_lt_of_cell? _ _ s2)).trans s2, (hb.cell (World.block_lt_of_cell? _ _ s3)).trans s3, (hb.cell (World.block_lt_of_cell? _ _ s4)).trans s4, (hb.cell (World.block_lt_of_cell? _ _ s5)).trans s5, (hb.cell (World.block_lt_of_cell? _ _ s6)).trans s6, (hb.cell (World.block_lt_of_cell? _ _ s7)).trans s7, (hb.cell (World.block_lt_of_cell? _ _ s8)).trans s8, (hb.cell (World.block_lt_of_cell? _ _ s9)).trans s9, (hb.cell (World.block_lt_of_cell? _ _ s10)).trans s10, (hb.cell (World.block_lt_of_cell? _ _ s11)).trans s11, (hb.cell (World.block_lt_of_cell? _ _ s12)).trans s12⟩
  replace LS := Aside0.mk (AR.below LS.out hb)
  replace PS := Aside0.mk (AR.below PS.out hb)
  replace BK5 := Aside0.mk (blk_below BK5.out hb)
  replace RB := Aside0.mk (Kd.R_below RB.out hb)
  replace BK6 := Aside0.mk (blk_below BK6.out hb)
  replace PB := Aside0.mk (Kd.R_below PB.out hb)
  replace BK7 := Aside0.mk (blk_below BK7.out hb)
  replace US := Aside0.mk (AR.below US.out hb)
  replace BK8 := Aside0.mk (blk_below BK8.out hb)
  replace BK9 := Aside0.mk (blk_below BK9.out hb)
  replace LF := Aside0.mk (Kd.R_below LF.out hb)
  replace HB := Aside0.mk (below_step HB.out hb)
  replace ZZ := Aside0.mk (And.intro ZZ.out (show w19_.heap.size ≤ w20_.heap.size from hb.size))
  refine hK.out _ _ hS_ (fun hHeld2 => ?_)
  clear hK K hHeld hS_ hb
  have hHeld := hHeld2
  clear hHeld2
  refine norm_ (a' := ?_) ?_ ?_
  rotate_left
  · show Act.put _ (some 75) _ = _
    simp only [Act.put, List.setIfInBounds_toArray, List.set_cons_zero, List.set_cons_succ, i64_w, i32_w]
    rfl
  refine pure_ (i := 34) (N := some 76) (v := ?_) (a' := ?_) #[true, true, true, true, true, true, true, true, true, true, true, true, true, true, true, true, true, true, true, true, true, true, true, true, true, true, true, true, true, true, true, true, true, true, true, false, false, false, false, false, false, false, false, false, false] rfl rfl (by kernel_rfl) (fun _ _ _ h => h) (Or.inl ⟨by rfl, ?_⟩) ?_ ?_
  rotate_left
  · intro w'
    go_simp
    with_reducible rfl
  rotate_left
  · simp only [Act.put, List.setIfInBounds_toArray, List.set_cons_zero, List.set_cons_succ, i64_w, i32_w]
    rfl
  refine pure_ (i := 35) (N := some 77) (v := ?_) (a' := ?_) #[true, true, true, true, true, true, true, true, true, true, true, true, true, true, true, true, true, true, true, true, true, true, true, true, true, true, true, true, true, true, true, true, true, true, true, true, false, false, false, false, false, false, false, false, false] rfl rfl (by kernel_rfl) (fun _ _ _ h => h) (Or.inl ⟨by rfl, ?_⟩) ?_ ?_
  rotate_left
  · intro w'
    go_simp
    with_reducible rfl
  rotate_left
  · simp only [Act.put, List.setIfInBounds_toArray, List.set_cons_zero, List.set_cons_succ, i64_w, i32_w]
    rfl
  refine pure_ (i := 36) (N := some 78) (v := ?_) (a' := ?_) #[true, true, true, true, true, true, true, true, true, true, true, true, true, true, true, true, true, true, true, true, true, true, true, true, true, true, true, true, true, true, true, true, true, true, true, true, true, false, false, false, false, false, false, false, false] rfl rfl (by kernel_rfl) (fun _ _ _ h => h) (Or.inl ⟨by rfl, ?_⟩) ?_ ?_
  rotate_left
  · intro w'
    go_simp
    with_reducible rfl
  rotate_left
  · simp only [Act.put, List.setIfInBounds_toArray, List.set_cons_zero, List.set_cons_succ, i64_w, i32_w]
    rfl
  refine take_ (i := 37) (N := some 79) (v := ?_) (a' := ?_) #[true, true, true, true, true, true, true, true, true, true, true, true, true, true, true, true, true, true, true, true, true, true, true, true, true, true, true, true, true, true, true, true, true, true, true, true, true, true, false, false, false, false, false, false, false] rfl rfl (by kernel_rfl) (fun _ _ _ h => h) (Or.inl ⟨by rfl, ?_⟩) hHeld ?_ ?_
  rotate_left
  · rintro w' ⟨s0, s1, s2, s3, s4, s5, s6, s7, s8, s9, s10, s11, s12⟩
    go_simp
    with_reducible rfl
  rotate_left
  · simp only [Act.put, List.setIfInBounds_toArray, List.set_cons_zero, List.set_cons_succ, i64_w, i32_w]
    rfl
  refine pure_ (i := 38) (N := some 80) (v := ?_) (a' := ?_) #[true, true, true, true, true, true, true, true, true, true, true, true, true, true, true, true, true, true, true, true, true, true, true, true, true, true, true, true, true, true, true, true, true, true, true, true, true, true, true, false, false, false, false, false, false] rfl rfl (by kernel_rfl) (fun _ _ _ h => h) (Or.inl ⟨by rfl, ?_⟩) ?_ ?_
  rotate_left
  · intro w'
    go_simp
    with_reducible rfl
  rotate_left
  · simp only [Act.put, List.setIfInBounds_toArray, List.set_cons_zero, List.set_cons_succ, i64_w, i32_w]
    rfl
  refine pure_ (i := 39) (N := some 81) (v := ?_) (a' := ?_) #[true, true, true, true, true, true, true, true, true, true, true, true, true, true, true, true, true, true, true, true, true, true, true, true, true, true, true, true, true, true, true, true, true, true, true, true, true, true, true, true, false, false, false, false, false] rfl rfl (by kernel_rfl) (fun _ _ _ h => h) (Or.inl ⟨by rfl, ?_⟩) ?_ ?_
  rotate_left
  · intro w'
    go_simp
    with_reducible rfl
  rotate_left
  · simp only [Act.put, List.setIfInBounds_toArray, List.set_cons_zero, List.set_cons_succ, i64_w, i32_w]
    rfl
  refine take_ (i := 40) (N := some 82) (v := ?_) (a' := ?_) #[true, true, true, true, true, true, true, true, true, true, true, true, true, true, true, true, true, true, true, true, true, true, true, true, true, true, true, true, true, true, true, true, true, true, true, true, true, true, true, true, true, false, false, false, false] rfl rfl (by kernel_rfl) (fun _ _ _ h => h) (Or.inl ⟨by rfl, ?_⟩) hHeld ?_ ?_
  rotate_left
  · rintro w' ⟨s0, s1, s2, s3, s4, s5, s6, s7, s8, s9, s10, s11, s12⟩
    go_simp
    with_reducible rfl
  rotate_left
  · simp only [Act.put, List.setIfInBounds_toArray, List.set_cons_zero, List.set_cons_succ, i64_w, i32_w]
    rfl
  refine pure_ (i := 41) (N := some 83) (v := ?_) (a' := ?_) #[true, true, true, true, true, true, true, true, true, true, true, true, true, true, true, true, true, true, true, true, true, true, true, true, true, true, true, true, true, true, true, true, true, true, true, true, true, true, true, true, true, true, false, false, false] rfl rfl (by kernel_rfl) (fun _ _ _ h => h) (Or.inl ⟨by rfl, ?_⟩) ?_ ?_
  rotate_left
  · intro w'
    go_simp
    with_reducible rfl
  rotate_left
  · simp only [Act.put, List.setIfInBounds_toArray, List.set_cons_zero, List.set_cons_succ, i64_w, i32_w]
    rfl
  refine pure_ (i := 42) (N := some 84) (v := ?_) (a' := ?_) #[true, true, true, true, true, true, true, true, true, true, true, true, true, true, true, true, true, true, true, true, true, true, true, true, true, true, true, true, true, true, true, true, true, true, true, true, true, true, true, true, true, true, true, false, false] rfl rfl (by kernel_rfl) (fun _ _ _ h => h) (Or.inl ⟨by rfl, ?_⟩) ?_ ?_
  rotate_left
  · intro w'
    go_simp
    with_reducible rfl
  rotate_left
  · simp only [Act.put, List.setIfInBounds_toArray, List.set_cons_zero, List.set_cons_succ, i64_w, i32_w]
    rfl
  refine pure_ (i := 43) (N := some 85) (v := ?_) (a' := ?_) #[true, true, true, true, true, true, true, true, true, true, true, true, true, true, true, true, true, true, true, true, true, true, true, true, true, true, true, true, true, true, true, true, true, true, true, true, true, true, true, true, true, true, true, true, false] rfl rfl (by kernel_rfl) (fun _ _ _ h => h) (Or.inl ⟨by rfl, ?_⟩) ?_ ?_
  rotate_left
  · intro w'
    go_simp
    with_reducible rfl
  rotate_left
  · simp only [Act.put, List.setIfInBounds_toArray, List.set_cons_zero, List.set_cons_succ, i64_w, i32_w]
    rfl
  refine pure_ (i := 44) (N := some 2) (v := ?_) (a' := ?_) #[true, true, true, true, true, true, true, true, true, true, true, true, true, true, true, true, true, true, true, true, true, true, true, true, true, true, true, true, true, true, true, true, true, true, true, true, true, true, true, true, true, true, true, true, true] rfl rfl (by kernel_rfl) (fun _ _ _ h => h) (Or.inl ⟨by rfl, ?_⟩) ?_ ?_
  rotate_left
  · intro w'
    go_simp
    with_reducible rfl
  rotate_left
  · simp only [Act.put, List.setIfInBounds_toArray, List.set_cons_zero, List.set_cons_succ, i64_w, i32_w]
    rfl
  refine done_ (by kernel_rfl) ?_
  go_wp2
  go_ret
  exact ⟨rfl, HB.out⟩

end Go.Proofs.Ytecndndpjekjbaa.S

/- DIRECT: the law FnProofs answers true: each event of a tree has a proof that holds, as it is told and as it is read back. No condition. -/
set_option linter.unusedVariables false
namespace Go.Proofs.Ytecndndpjekjbaa.Pure
open Go Go.RowKit Go.Proofs.Ytecndndpjekjbaa.S Go.Proofs.YtecndndpjekjbaaW.PrintWords Go.Proofs.YtecndndpjekjbaaW.PrintLast Go.Proofs.YtecndndpjekjbaaW.PrintMore Go.Proofs.Ytecndndpjekjbaa.Base Go.Proofs.Ytecndndpjekjbaa.Sha

theorem FnProofs (l0 : List Int) (hl : l0.length ≤ 9223372036854775807) (hw : ∀ y ∈ l0, (Lit.int .u8 y).wf = true) (A0 : Option Addr) (c0 : Nat) (w : World) (hr0 : Kd.C (Kd.int .u8) w A0 l0.length l0) (hc0 : l0.length ≤ c0) :
    Calls Try.prog 8 #[.slice A0 l0.length c0] w fun e w' => e = .returned (.bool true) ∧ Below w.heap.size w w' := by
  have hy := byt_of_wf hw
  have hbig : laws_lwBig.f l0 = some (decide ((l0.length : Int) > 1048576)) := rfl
  by_cases hc : (l0.length : Int) > 1048576
  · rw [decide_eq_true hc] at hbig
    exact law_FnProofs_big A0 c0 l0 w hr0 hc0 hbig
  rw [decide_eq_false hc] at hbig
  obtain ⟨ls, p, hd, hn, hm⟩ := drawProve_ok hy
  obtain ⟨kd, hd⟩ := hd.rounds
  have hb : ∀ l ∈ ls, Byt l := fun l h => (hm l h).1
  have hi := impl_ProveLeaf_ev hb p
  by_cases hF : Few ls ∧ (0 ≤ p ∧ p ≤ (ls.length : Int) - 1)
  · obtain ⟨a, rfl⟩ : ∃ a : Nat, p = (a : Int) := ⟨p.toNat, by omega⟩
    have ha : a < ls.length := by omega
    have hv : proveV ls (a : Int) = (0, (a : Int), (ls.length : Int), pathV 16 ls (a : Int)) := by
      unfold proveV
      rw [if_pos hF.1, if_pos hF.2]
    rw [hv] at hi
    have hL := few_leaves hF.1 hb
    obtain ⟨L, h1, h2, h4, h5, h6⟩ := path_climb 16 ls a (by omega) hL.1 hL ha
    have h16 := hL.1
    generalize pathV 16 ls (a : Int) = ps at *
    have hP : Placed (ls.length : Int) (a : Int) := ⟨by omega, by omega, by omega⟩
    have hR : Right (ls.length : Int) (a : Int) L ps := ⟨hP, h4, fun l h => (h5 l h).2⟩
    have hrt := root_byt (ls := ls) h16
    have hr := impl_RootOf_ev hb
    rw [show rootOfV ls = (0, root ls) from if_pos hF.1] at hr
    have hk := impl_PackProof_ev (a : Int) (ls.length : Int) L (by omega) (fun _ => h2) ps
    rw [show packProofV (a : Int) (ls.length : Int) L ps = (0, packL (proofW (a : Int) (ls.length : Int) ps)) from if_pos hR, show proofW (a : Int) (ls.length : Int) ps = [(a : Int)] :: [(ls.length : Int)] :: ps from by
      unfold proofW
      rw [Int.emod_eq_of_lt (by omega) (by omega), Int.emod_eq_of_lt (by omega) (by omega)]
      rfl] at hk
    have hws : ∀ v ∈ [(a : Int)] :: [(ls.length : Int)] :: ps, Byt v ∧ v.length ≤ 32 := by
      intro v hv
      rcases List.mem_cons.1 hv with rfl | hv
      · exact ⟨byt_one (by omega) (by omega), by simp⟩
      rcases List.mem_cons.1 hv with rfl | hv
      · exact ⟨byt_one (by omega) (by omega), by simp⟩
      · exact ⟨(h5 v hv).1, by rw [(h5 v hv).2]; omega⟩
    have hlen : ([(a : Int)] :: [(ls.length : Int)] :: ps).length ≤ 18 := by simp; omega
    have hpl := packL_len (m := 32) (fun v h => (hws v h).2)
    have hu := unpackV_pack (vs := [(a : Int)] :: [(ls.length : Int)] :: ps) (fun v h => by have := (hws v h).2; omega) (by omega) (by omega)
    have hpb : Byt (packL ([(a : Int)] :: [(ls.length : Int)] :: ps)) := packLB_byt _ (fun v h => (hws v h).1)
    have hue := impl_UnpackWords_ev hpb
    rw [hu] at hue
    generalize packL ([(a : Int)] :: [(ls.length : Int)] :: ps) = pb at *
    obtain ⟨ku, hue⟩ := hue.rounds
    obtain ⟨kq, hq⟩ := (impl_isProof_ev (ls.length : Int) (a : Int) L (fun _ => h2) ps).rounds
    rw [decide_eq_true hR] at hq
    have hpn := impl_pathLength_ev (ls.length : Int) (a : Int) L (fun _ => h2)
    rw [if_pos hP, ← h4] at hpn
    have hmem : ls.getD a [] ∈ ls := by
      rw [List.getD_eq_getElem?_getD, List.getElem?_eq_getElem ha]
      exact List.getElem_mem _
    have hck := impl_CheckProof_ev hrt (hb _ hmem) (by have := (hm _ hmem).2; omega) (ls.length : Int) (a : Int) L (by omega) (fun _ => h2) ps (fun l h => (h5 l h).1)
    rw [show checkV (root ls) (ls.getD a []) (ls.length : Int) (a : Int) L ps = true from by
      unfold checkV
      rw [if_pos hR, decide_eq_true h6]] at hck
    obtain ⟨kp, hi⟩ := hi.rounds
    obtain ⟨kr, hr⟩ := hr.rounds
    obtain ⟨kk, hk⟩ := hk.rounds
    obtain ⟨kn, hpn⟩ := hpn.rounds
    obtain ⟨kc, hck⟩ := hck.rounds
    have hlf : ls[a]! = ls.getD a [] := by
      rw [getElem!_pos ls a ha, List.getD_eq_getElem?_getD, List.getElem?_eq_getElem ha]
      rfl
    have hup : ∀ (B : Option Addr) (d : Nat) (W : World), Kd.C (Kd.int .u8) W B pb.length pb → pb.length ≤ d → Calls Try.prog 38 #[.slice B pb.length d] W (fun e w' => ∃ A c, e = .returned (.agg #[.int .i64 0, .int .i64 (a : Int), .int .i64 (ls.length : Int), .slice A ps.length c]) ∧ ps.length ≤ c ∧ AR W.heap.size w' W.heap.size w'.heap.size A ps ∧ Below W.heap.size W w') :=
      fun B d W hB hd2 => impl_UnpackProof_D ku B d pb 0 0 ([(a : Int)] :: [(ls.length : Int)] :: ps) (a : Int) (ls.length : Int) ps true kq W hB hd2 hue (by simp) rfl rfl ⟨by omega, by omega⟩ ⟨by omega, by omega⟩ rfl hq
    exact law_FnProofs_ok A0 c0 l0 ls a (ls.getD a []) ps (root ls) pb 0 kd kp kr kk kn kc w hr0 hc0 hbig ha hlf hd hi hr hk hup hpn hck
  · by_cases c1 : Few ls
    · have c2 : ¬ (0 ≤ p ∧ p ≤ (ls.length : Int) - 1) := fun h => hF ⟨c1, h⟩
      rw [show proveV ls p = (3, 0, 0, []) from by unfold proveV; rw [if_pos c1, if_neg c2]] at hi
      obtain ⟨kp, hi⟩ := hi.rounds
      obtain ⟨km, hmy⟩ := (many_ev ls).rounds
      rw [decide_eq_true c1] at hmy
      have hin := l1In_eq p 0 ((ls.length : Int) - 1)
      rw [decide_eq_false c2] at hin
      exact law_FnProofs_bad A0 c0 l0 ls p 3 0 0 [] kd kp w hr0 hc0 hbig hd hi (fun B d W hB hd2 => spec_ProveLeaf_I B d ls p km W hB hd2 hmy hin (by omega)) (by decide)
    · rw [show proveV ls p = (2, 0, 0, []) from by unfold proveV; rw [if_neg c1]] at hi
      obtain ⟨kp, hi⟩ := hi.rounds
      obtain ⟨km, hmy⟩ := (many_ev ls).rounds
      rw [decide_eq_false c1] at hmy
      exact law_FnProofs_bad A0 c0 l0 ls p 2 0 0 [] kd kp w hr0 hc0 hbig hd hi (fun B d W hB hd2 => spec_ProveLeaf_M B d ls p km W hB hd2 hmy) (by decide)
end Go.Proofs.Ytecndndpjekjbaa.Pure
