import Derived.Test.YtecndndpjekjbaaShaI
import Derived.Test.YtecndndpjekjbaaPStr
import Derived.Test.YtecndndpjekjbaaSxSpecTaggedDigest
import Derived.Test.YtecndndpjekjbaaSxImplTaggedY
import Derived.Test.YtecndndpjekjbaaSxImplDigestY
import Derived.Test.YtecndndpjekjbaaSxSpecDigest
import Derived.Test.YtecndndpjekjbaaBase
import Derived.Test.YtecndndpjekjbaaSxSpecTree
import Derived.Test.YtecndndpjekjbaaSxImplTree
import Derived.Test.YtecndndpjekjbaaSxImplTree
import Derived.Test.YtecndndpjekjbaaSxSpecTree
import Derived.Test.YtecndndpjekjbaaSxLawsHelp
import Derived.Test.YtecndndpjekjbaaSxLawsHelp
import Derived.Test.YtecndndpjekjbaaSxLawsHelpSS
import Derived.Test.YtecndndpjekjbaaSxImplAreLeavesY
import Derived.Test.YtecndndpjekjbaaSxSpecL3ManyY
import Derived.Test.YtecndndpjekjbaaSxImplSmall
import Derived.Test.YtecndndpjekjbaaSxSpecL1
import Derived.Test.YtecndndpjekjbaaSxImplPathOfY
import Derived.Test.YtecndndpjekjbaaSxSpecL3PathY
import Derived.Test.YtecndndpjekjbaaSxImplProveLeafY
import Derived.Test.YtecndndpjekjbaaSxSpecL3ProveY
import Derived.Test.YtecndndpjekjbaaSxImplProveLeaf
import Derived.Test.YtecndndpjekjbaaSxSpecProveLeaf
import Derived.Test.YtecndndpjekjbaaSxLawsHelp
import Derived.Test.YtecndndpjekjbaaSx0
import Derived.WalkSpells
import Derived.Laws.Tables
import Derived.Laws.CopyOwn
import Derived.Test.YtecndndpjekjbaaSxLawsHelpSS
import Derived.Test.YtecndndpjekjbaaSxLawsHelp
import Derived.Test.YtecndndpjekjbaaSxLawsHelp
import Derived.Test.YtecndndpjekjbaaSxLawsHeldProofResultY
import Derived.Test.YtecndndpjekjbaaSxLawsHelpSS
import Derived.Test.YtecndndpjekjbaaSxLawsEqProofResultY
import Derived.Test.YtecndndpjekjbaaSxLawsHeldProofResultY
import Derived.Test.YtecndndpjekjbaaSxSpecProveLeaf
import Derived.Test.YtecndndpjekjbaaSxImplProveLeaf
import Derived.Test.YtecndndpjekjbaaSxLawsEqProofResultY
import Derived.Test.YtecndndpjekjbaaSxLawsHeldProofResultY
import Derived.Test.YtecndndpjekjbaaSxLawsHelpSS
/- The digest and the tagged digest, as plain functions: what the program's and the reference's come to. For all bytes that fit. -/
set_option linter.unusedVariables false
namespace Go.Proofs.Ytecndndpjekjbaa.S
open Go.RowKit Go.Proofs.YtecndndpjekjbaaW.PrintWords Go.Proofs.YtecndndpjekjbaaW.PrintLast Go.Proofs.YtecndndpjekjbaaW.PrintMore Go.Proofs.Ytecndndpjekjbaa.Base Go.Proofs.Ytecndndpjekjbaa.Sha

theorem spec_dig {l : List Int} (hl : Byt l) (hn : l.length < 70000000000000) : spec_Digest.f l = some (sha l) := by
  unfold spec_Digest.f
  refine if_pos ?_
  unfold spec_Digest.ok
  rw [Bool.and_eq_true]
  exact ⟨List.all_eq_true.2 (fun x hx => decide_eq_true (hl x hx)), decide_eq_true hn⟩
theorem impl_dig {ls : List (List Int)} (hl : Byt ls.flatten) (hn : ls.flatten.length < 70000000000000) : impl_digest.f ls = some (sha ls.flatten) := by
  unfold impl_digest.f
  refine if_pos ?_
  unfold impl_digest.ok
  rw [Bool.and_eq_true]
  exact ⟨List.all_eq_true.2 (fun x hx => decide_eq_true (hl x hx)), decide_eq_true hn⟩
/-- The tagged digest. -/
def tg (t : ByteArray) (l : List Int) : List Int := sha ([(t.size : Int) % 256] ++ bytesOf t ++ l)
theorem tg_length (t : ByteArray) (l : List Int) : (tg t l).length = 32 := sha_length _
theorem tg_byt (t : ByteArray) (l : List Int) : Byt (tg t l) := sha_byt _
theorem tg_byt0 {t : ByteArray} {l : List Int} (hl : Byt l) : Byt ([(t.size : Int) % 256] ++ bytesOf t ++ l) :=
  byt_append (byt_append (byt_one (by omega) (by omega)) (bytesOf_byt t)) hl
theorem spec_tag {t : ByteArray} {l : List Int} (hl : Byt l) (hn : t.size + l.length < 60000000000000) : spec_TaggedDigest.f t l = some (tg t l) := by
  unfold spec_TaggedDigest.f
  refine spec_dig (tg_byt0 hl) ?_
  rw [List.length_append, List.length_append, bytesOf_length, List.length_singleton]
  omega
theorem impl_tag {t : ByteArray} {ls : List (List Int)} (hl : Byt ls.flatten) (hn : t.size + ls.flatten.length < 60000000000000) (hc : ls.length < 5000000000000) : impl_tagged.f t ls = some (tg t ls.flatten) := by
  unfold impl_tagged.f
  rw [if_pos (by omega)]
  have e : ([[(t.size : Int) % 256], bytesOf t] ++ ls).flatten = [(t.size : Int) % 256] ++ bytesOf t ++ ls.flatten := by simp
  rw [impl_dig (by rw [e]; exact tg_byt0 hl) (by rw [e, List.length_append, List.length_append, bytesOf_length, List.length_singleton]; omega), e]
  rfl
theorem impl_tag1 {t : ByteArray} {l : List Int} (hl : Byt l) (hn : t.size + l.length < 60000000000000) : impl_tagged.f t [l] = some (tg t l) := by
  have e : [l].flatten = l := by simp
  have h := impl_tag (t := t) (ls := [l]) (by rw [e]; exact hl) (by rw [e]; exact hn) (by simp)
  rw [e] at h
  exact h
theorem impl_tag2 {t : ByteArray} {l m : List Int} (hl : Byt l) (hm : Byt m) (hn : t.size + l.length + m.length < 60000000000000) : impl_tagged.f t [l, m] = some (tg t (l ++ m)) := by
  have e : [l, m].flatten = l ++ m := by simp
  have h := impl_tag (t := t) (ls := [l, m]) (by rw [e]; exact byt_append hl hm) (by rw [e, List.length_append]; omega) (by simp)
  rw [e] at h
  exact h
end Go.Proofs.Ytecndndpjekjbaa.S

/- How a tree is split, and on which side the other parts are: the program's splitAt and sides and the reference's l3Split and l3Sides agree for 1 to 16 leaves. -/
set_option linter.unusedVariables false
namespace Go.Proofs.Ytecndndpjekjbaa.S
open Go.RowKit Go.Proofs.YtecndndpjekjbaaW.PrintWords Go.Proofs.YtecndndpjekjbaaW.PrintLast Go.Proofs.YtecndndpjekjbaaW.PrintMore Go.Proofs.Ytecndndpjekjbaa.Base

def splitV (n : Int) : Int := if n ≤ 2 then 1 else if n ≤ 4 then 2 else if n ≤ 8 then 4 else 8
theorem splitV_range {n : Int} (h : 2 ≤ n) (h1 : n ≤ 16) : 1 ≤ splitV n ∧ splitV n < n ∧ splitV n ≤ 8 ∧ n - splitV n ≤ 8 := by
  unfold splitV
  repeat' split
  all_goals omega
theorem wd (x : Int) (h0 : 0 ≤ x) (h1 : x ≤ 16) : wrap64 (2 * x) = 2 * x := w64 (by omega) (by omega)
theorem wd' (x : Int) (h0 : 0 ≤ x) (h1 : x ≤ 16) : wrap64 (x * 2) = 2 * x := by rw [w64 (by omega) (by omega)]; omega
theorem spec_split_ev {n : Int} (h : 2 ≤ n) (h1 : n ≤ 16) : Ev (fun k => spec_l3Split.f k n) (splitV n) := by
  unfold spec_l3Split.f splitV
  refine ev_step (fun k => spec_l3Split.l0.eq_2 _ _ _) ?_
  rw [wd 1 (by omega) (by omega)]
  by_cases c1 : n ≤ 2
  · rw [if_pos c1]; exact ev_neg (by omega) (ev_now rfl)
  rw [if_neg c1]; refine ev_pos (by omega) ?_
  refine ev_step (fun k => spec_l3Split.l0.eq_2 _ _ _) ?_
  rw [wd (2 * 1) (by omega) (by omega)]
  by_cases c2 : n ≤ 4
  · rw [if_pos c2]; exact ev_neg (by omega) (ev_now rfl)
  rw [if_neg c2]; refine ev_pos (by omega) ?_
  refine ev_step (fun k => spec_l3Split.l0.eq_2 _ _ _) ?_
  rw [wd (2 * (2 * 1)) (by omega) (by omega)]
  by_cases c3 : n ≤ 8
  · rw [if_pos c3]; exact ev_neg (by omega) (ev_now rfl)
  rw [if_neg c3]; refine ev_pos (by omega) ?_
  refine ev_step (fun k => spec_l3Split.l0.eq_2 _ _ _) ?_
  rw [wd (2 * (2 * (2 * 1))) (by omega) (by omega)]
  exact ev_neg (by omega) (ev_now rfl)
theorem impl_split_ev {n : Int} (h : 2 ≤ n) (h1 : n ≤ 16) : Ev (fun k => impl_splitAt.f k n) (splitV n) := by
  unfold impl_splitAt.f splitV
  refine ev_step (fun k => impl_splitAt.l0.eq_2 _ _ _) ?_
  rw [wd 1 (by omega) (by omega), wd' 1 (by omega) (by omega)]
  by_cases c1 : n ≤ 2
  · rw [if_pos c1]; exact ev_neg (by omega) (ev_now rfl)
  rw [if_neg c1]; refine ev_pos (by omega) ?_
  refine ev_step (fun k => impl_splitAt.l0.eq_2 _ _ _) ?_
  rw [wd (2 * 1) (by omega) (by omega), wd' (2 * 1) (by omega) (by omega)]
  by_cases c2 : n ≤ 4
  · rw [if_pos c2]; exact ev_neg (by omega) (ev_now rfl)
  rw [if_neg c2]; refine ev_pos (by omega) ?_
  refine ev_step (fun k => impl_splitAt.l0.eq_2 _ _ _) ?_
  rw [wd (2 * (2 * 1)) (by omega) (by omega), wd' (2 * (2 * 1)) (by omega) (by omega)]
  by_cases c3 : n ≤ 8
  · rw [if_pos c3]; exact ev_neg (by omega) (ev_now rfl)
  rw [if_neg c3]; refine ev_pos (by omega) ?_
  refine ev_step (fun k => impl_splitAt.l0.eq_2 _ _ _) ?_
  rw [wd (2 * (2 * (2 * 1))) (by omega) (by omega)]
  exact ev_neg (by omega) (ev_now rfl)
/-- The sides of the way from leaf p up in a tree of n leaves: true: the other part is on the left. -/
theorem sides_ev : ∀ (m : Nat) (n p : Int), n ≤ m → 1 ≤ n → n ≤ 16 → 0 ≤ p → p < n → ∃ L : List Bool, (L.length : Int) < n ∧ Ev (fun k => impl_sides.f k n p) L ∧ Ev (fun k => spec_l3Sides.f k n p) (L.map not) := by
  intro m
  induction m with
  | zero => intro n p h h1; omega
  | succ m ih =>
    intro n p h h1 h2 hp hq
    by_cases e : n = 1
    · refine ⟨[], by simp; omega, ?_, ?_⟩
      · exact ev_step (fun k => impl_sides.f.eq_2 _ _ _) (ev_pos e (ev_now rfl))
      · exact ev_step (fun k => spec_l3Sides.f.eq_2 _ _ _) (ev_pos (by omega) (ev_now rfl))
    · have hr := splitV_range (n := n) (by omega) h2
      have hs := spec_split_ev (n := n) (by omega) h2
      have hi := impl_split_ev (n := n) (by omega) h2
      generalize splitV n = v at hr hs hi
      by_cases c : p < v
      · obtain ⟨L, l1, l2, l3⟩ := ih v p (by omega) (by omega) (by omega) hp c
        refine ⟨L ++ [false], by simp; omega, ?_, ?_⟩
        · refine ev_step (fun k => impl_sides.f.eq_2 _ _ _) (ev_neg e (ev_bind hi (ev_pos c (ev_bind l2 (ev_pos ?_ (ev_now rfl))))))
          omega
        · refine ev_step (fun k => spec_l3Sides.f.eq_2 _ _ _) (ev_neg (by omega) (ev_bind hs (ev_pos c (ev_bind l3 (ev_pos ?_ (ev_now (by simp)))))))
          rw [List.length_map]; omega
      · obtain ⟨L, l1, l2, l3⟩ := ih (n - v) (p - v) (by omega) (by omega) (by omega) (by omega) (by omega)
        have e1 : wrap64 (n - v) = n - v := w64 (by omega) (by omega)
        have e2 : wrap64 (p - v) = p - v := w64 (by omega) (by omega)
        refine ⟨L ++ [true], by simp; omega, ?_, ?_⟩
        · refine ev_step (fun k => impl_sides.f.eq_2 _ _ _) (ev_neg e (ev_bind hi (ev_neg c ?_)))
          rw [e1, e2]
          exact ev_bind l2 (ev_pos (by omega) (ev_now rfl))
        · refine ev_step (fun k => spec_l3Sides.f.eq_2 _ _ _) (ev_neg (by omega) (ev_bind hs (ev_neg c ?_)))
          rw [e1, e2]
          exact ev_bind l3 (ev_pos (by rw [List.length_map]; omega) (ev_now (by simp)))
end Go.Proofs.Ytecndndpjekjbaa.S

/- The root of a tree of events: what the program's and the reference's come to. For up to 16 events of bytes that fit. -/
set_option linter.unusedVariables false
namespace Go.Proofs.Ytecndndpjekjbaa.S
open Go.RowKit Go.Proofs.YtecndndpjekjbaaW.PrintWords Go.Proofs.YtecndndpjekjbaaW.PrintLast Go.Proofs.YtecndndpjekjbaaW.PrintMore Go.Proofs.Ytecndndpjekjbaa.Base Go.Proofs.Ytecndndpjekjbaa.Sha

def leafV (l : List Int) : List Int := tg (⟨#[108, 101, 97, 102]⟩ : ByteArray) l
def nodeV (l m : List Int) : List Int := tg (⟨#[110, 111, 100, 101]⟩ : ByteArray) (l ++ m)
theorem impl_leaf_eq {l : List Int} (hl : Byt l) (hn : l.length ≤ 4294967296) : impl_LeafDigest.f l = some (leafV l) := by
  have h4 : (⟨#[108, 101, 97, 102]⟩ : ByteArray).size = 4 := rfl
  unfold impl_LeafDigest.f
  rw [impl_tag1 hl (by omega)]
  rfl
theorem spec_leaf_eq {l : List Int} (hl : Byt l) (hn : l.length ≤ 4294967296) : spec_LeafDigest.f l = some (leafV l) := by
  have h4 : (⟨#[108, 101, 97, 102]⟩ : ByteArray).size = 4 := rfl
  unfold spec_LeafDigest.f
  rw [spec_tag hl (by omega)]
  rfl
theorem impl_node_eq {l m : List Int} (hl : Byt l) (hm : Byt m) (hn : l.length ≤ 4294967296) (hn2 : m.length ≤ 4294967296) : impl_NodeDigest.f l m = some (nodeV l m) := by
  have h4 : (⟨#[110, 111, 100, 101]⟩ : ByteArray).size = 4 := rfl
  unfold impl_NodeDigest.f
  rw [impl_tag2 hl hm (by omega)]
  rfl
theorem spec_node_eq {l m : List Int} (hl : Byt l) (hm : Byt m) (hn : l.length ≤ 4294967296) (hn2 : m.length ≤ 4294967296) : spec_NodeDigest.f l m = some (nodeV l m) := by
  have h4 : (⟨#[110, 111, 100, 101]⟩ : ByteArray).size = 4 := rfl
  unfold spec_NodeDigest.f
  simp only [Option.bind_some, List.length_nil, List.nil_append]
  rw [if_pos (show 0 + l.length < 140737488355328 by omega), if_pos (show l.length + m.length < 140737488355328 by omega), spec_tag (byt_append hl hm) (by rw [List.length_append]; omega)]
  rfl
/-- How many of n leaves are on the left. -/
def cutV (n : Nat) : Nat := (splitV (n : Int)).toNat
theorem cutV_cast {n : Nat} (h : 2 ≤ n) (h1 : n ≤ 16) : ((cutV n : Nat) : Int) = splitV (n : Int) := by
  have := splitV_range (n := (n : Int)) (by omega) (by omega)
  unfold cutV
  omega
theorem cutV_range {n : Nat} (h : 2 ≤ n) (h1 : n ≤ 16) : 1 ≤ cutV n ∧ cutV n < n := by
  have := splitV_range (n := (n : Int)) (by omega) (by omega)
  have := cutV_cast h h1
  omega
def rootV : Nat → List (List Int) → List Int
  | 0, _ => []
  | m + 1, ls => if ls.length = 0 then tg (⟨#[110, 111, 110, 101]⟩ : ByteArray) [] else if ls.length = 1 then leafV (ls.getD 0 []) else nodeV (rootV m (ls.take (cutV ls.length))) (rootV m (ls.drop (cutV ls.length)))
/-- Leaves that fit. -/
def Leaves (ls : List (List Int)) : Prop := ls.length ≤ 16 ∧ ∀ l ∈ ls, Byt l ∧ l.length ≤ 4294967296
theorem Leaves.take {ls : List (List Int)} (h : Leaves ls) (n : Nat) : Leaves (ls.take n) := ⟨by have := h.1; rw [List.length_take]; omega, fun l hl => h.2 l (List.mem_of_mem_take hl)⟩
theorem Leaves.drop {ls : List (List Int)} (h : Leaves ls) (n : Nat) : Leaves (ls.drop n) := ⟨by have := h.1; rw [List.length_drop]; omega, fun l hl => h.2 l (List.mem_of_mem_drop hl)⟩
theorem rd_L_zero (ls : List (List Int)) : rd_L1 ls 0 = ls.getD 0 [] := rfl
theorem rootV_ok : ∀ (m : Nat) (ls : List (List Int)), ls.length ≤ m → Byt (rootV (m + 1) ls) ∧ (rootV (m + 1) ls).length = 32 := by
  intro m
  induction m with
  | zero =>
    intro ls h
    unfold rootV
    rw [if_pos (by omega)]
    exact ⟨tg_byt _ _, tg_length _ _⟩
  | succ m ih =>
    intro ls h
    unfold rootV
    split
    · exact ⟨tg_byt _ _, tg_length _ _⟩
    · split
      · exact ⟨tg_byt _ _, tg_length _ _⟩
      · exact ⟨tg_byt _ _, tg_length _ _⟩
theorem root_ev : ∀ (m : Nat) (ls : List (List Int)), ls.length ≤ m → Leaves ls → Ev (fun k => impl_rootOf.f k ls) (rootV (m + 1) ls) ∧ Ev (fun k => spec_l3Root.f k ls) (rootV (m + 1) ls) := by
  intro m
  have h4 : (⟨#[110, 111, 110, 101]⟩ : ByteArray).size = 4 := rfl
  induction m with
  | zero =>
    intro ls h hL
    unfold rootV
    rw [if_pos (by omega)]
    exact ⟨ev_step (fun k => impl_rootOf.f.eq_2 _ _) (ev_pos (by omega) (ev_bind (ev_now (impl_tag (ls := []) byt_nil (by simp only [List.flatten_nil, List.length_nil]; omega) (by simp))) (ev_now rfl))), ev_step (fun k => spec_l3Root.f.eq_2 _ _) (ev_pos (by omega) (ev_bind (ev_now (spec_tag byt_nil (by simp only [List.length_nil]; omega))) (ev_now rfl)))⟩
  | succ m ih =>
    intro ls h hL
    by_cases h0 : ls.length = 0
    · unfold rootV
      rw [if_pos h0]
      exact ⟨ev_step (fun k => impl_rootOf.f.eq_2 _ _) (ev_pos (by omega) (ev_bind (ev_now (impl_tag (ls := []) byt_nil (by simp only [List.flatten_nil, List.length_nil]; omega) (by simp))) (ev_now rfl))), ev_step (fun k => spec_l3Root.f.eq_2 _ _) (ev_pos (by omega) (ev_bind (ev_now (spec_tag byt_nil (by simp only [List.length_nil]; omega))) (ev_now rfl)))⟩
    by_cases h1 : ls.length = 1
    · have hm : ls.getD 0 [] ∈ ls := by
        rw [List.getD_eq_getElem?_getD, List.getElem?_eq_getElem (show 0 < ls.length by omega)]
        exact List.getElem_mem _
      obtain ⟨hy, hn⟩ := hL.2 _ hm
      unfold rootV
      rw [if_neg h0, if_pos h1]
      exact ⟨ev_step (fun k => impl_rootOf.f.eq_2 _ _) (ev_neg (by omega) (ev_pos (by omega) (ev_pos (by omega) (ev_bind (ev_now (impl_leaf_eq hy hn)) (ev_now rfl))))), ev_step (fun k => spec_l3Root.f.eq_2 _ _) (ev_neg (by omega) (ev_pos (by omega) (ev_pos (by omega) (ev_bind (ev_now (spec_leaf_eq hy hn)) (ev_now rfl)))))⟩
    · have hl := hL.1
      have hc := cutV_range (n := ls.length) (by omega) hl
      have hcc := cutV_cast (n := ls.length) (by omega) hl
      have hs := spec_split_ev (n := (ls.length : Int)) (by omega) (by omega)
      have hi := impl_split_ev (n := (ls.length : Int)) (by omega) (by omega)
      rw [← hcc] at hs hi
      unfold rootV
      rw [if_neg h0, if_neg h1]
      generalize cutV ls.length = v at *
      have t1 : (ls.take v).length ≤ m := by rw [List.length_take]; omega
      have t2 : (ls.drop v).length ≤ m := by rw [List.length_drop]; omega
      obtain ⟨a1, a2⟩ := ih (ls.take v) t1 (hL.take v)
      obtain ⟨b1, b2⟩ := ih (ls.drop v) t2 (hL.drop v)
      obtain ⟨c1, c2⟩ := rootV_ok m (ls.take v) t1
      obtain ⟨d1, d2⟩ := rootV_ok m (ls.drop v) t2
      refine ⟨ev_step (fun k => impl_rootOf.f.eq_2 _ _) (ev_neg (by omega) (ev_neg (by omega) (ev_bind hi (ev_pos (by omega) (ev_pos (by omega) ?_))))), ev_step (fun k => spec_l3Root.f.eq_2 _ _) (ev_neg (by omega) (ev_neg (by omega) (ev_bind hs (ev_pos (by omega) (ev_pos (by omega) ?_)))))⟩
      · rw [Int.toNat_natCast]
        exact ev_bind a1 (ev_bind b1 (ev_bind (ev_now (impl_node_eq c1 d1 (by omega) (by omega))) (ev_now rfl)))
      · rw [Int.toNat_natCast]
        exact ev_bind a2 (ev_bind b2 (ev_bind (ev_now (spec_node_eq c1 d1 (by omega) (by omega))) (ev_now rfl)))
def root (ls : List (List Int)) : List Int := rootV 17 ls
theorem impl_root_ev {ls : List (List Int)} (h : Leaves ls) : Ev (fun k => impl_rootOf.f k ls) (root ls) := (root_ev 16 ls h.1 h).1
theorem spec_root_ev {ls : List (List Int)} (h : Leaves ls) : Ev (fun k => spec_l3Root.f k ls) (root ls) := (root_ev 16 ls h.1 h).2
theorem root_byt {ls : List (List Int)} (h : ls.length ≤ 16) : Byt (root ls) := (rootV_ok 16 ls h).1
theorem root_length {ls : List (List Int)} (h : ls.length ≤ 16) : (root ls).length = 32 := (rootV_ok 16 ls h).2
end Go.Proofs.Ytecndndpjekjbaa.S

/- What the laws' own helpers on byte slices come to: toByteS copies, eqByteS compares, markByteS and heldByteS count alike. For every slice that fits memory. -/
set_option linter.unusedVariables false
namespace Go.Proofs.Ytecndndpjekjbaa.S
open Go.RowKit Go.Proofs.YtecndndpjekjbaaW.PrintWords Go.Proofs.YtecndndpjekjbaaW.PrintLast Go.Proofs.YtecndndpjekjbaaW.PrintMore Go.Proofs.Ytecndndpjekjbaa.Base

theorem toByteS_l0 (l : List Int) (hl : l.length ≤ 281474976710656) : ∀ (d : Nat) (x : List Int) (i : Nat), i + d = l.length → x.length = l.length → (∀ j, j < i → x[j]? = l[j]?) → Ev (fun k => laws_toByteS.l0 k l x (i : Int)) l := by
  intro d
  induction d with
  | zero =>
    intro x i hi hx hj
    refine ev_step (fun k => laws_toByteS.l0.eq_2 _ _ _ _) ?_
    refine ev_neg (by omega) ?_
    rw [fill_all hx (fun j h => hj j (by omega))]
    exact ev_now rfl
  | succ d ih =>
    intro x i hi hx hj
    refine ev_step (fun k => laws_toByteS.l0.eq_2 _ _ _ _) ?_
    refine ev_pos (by omega) ?_
    refine ev_pos (by omega) ?_
    refine ev_pos (by omega) ?_
    rw [w64s (by omega), Int.toNat_natCast]
    exact ih _ (i + 1) (by omega) (by rw [List.length_set]; exact hx) (fill_step (by omega) hx hj)
theorem toByteS_ev (l : List Int) (hl : l.length ≤ 281474976710656) : Ev (fun k => laws_toByteS.f k l) l := by
  unfold laws_toByteS.f
  refine ev_pos (by omega) ?_
  refine ev_pos (by omega) ?_
  exact toByteS_l0 l hl l.length _ 0 (by omega) (by simp) (fun j h => by omega)
theorem eqByteS_l0 (l : List Int) (hl : l.length ≤ 281474976710656) : ∀ (d i : Nat), i + d = l.length → Ev (fun k => laws_eqByteS.l0 k l l (i : Int)) true := by
  intro d
  induction d with
  | zero =>
    intro i hi
    refine ev_step (fun k => laws_eqByteS.l0.eq_2 _ _ _ _) ?_
    refine ev_neg (by omega) ?_
    exact ev_now rfl
  | succ d ih =>
    intro i hi
    refine ev_step (fun k => laws_eqByteS.l0.eq_2 _ _ _ _) ?_
    refine ev_pos (by omega) ?_
    refine ev_pos (by omega) ?_
    refine ev_pos (by omega) ?_
    refine ev_pos rfl ?_
    rw [w64s (by omega)]
    exact ih (i + 1) (by omega)
theorem eqByteS_ev (l : List Int) (hl : l.length ≤ 281474976710656) : Ev (fun k => laws_eqByteS.f k l l) true := by
  unfold laws_eqByteS.f
  refine ev_pos rfl ?_
  exact eqByteS_l0 l hl l.length 0 (by omega)
end Go.Proofs.Ytecndndpjekjbaa.S

/- How many places are left behind a slice of bytes. -/
set_option linter.unusedVariables false
namespace Go.Proofs.Ytecndndpjekjbaa.S
open Go.RowKit Go.Proofs.YtecndndpjekjbaaW.PrintWords Go.Proofs.YtecndndpjekjbaaW.PrintLast Go.Proofs.YtecndndpjekjbaaW.PrintMore Go.Proofs.Ytecndndpjekjbaa.Base

def szV (n : Nat) (a : Int) : Int := if a - n < 0 then -1 else a - n
theorem szByteS_eq (l : List Int) (a : Int) (hl : l.length ≤ 9223372036854775807) (h0 : 0 ≤ a) (h1 : a ≤ 1048576) : laws_szByteS.f l a = some (szV l.length a) := by
  unfold laws_szByteS.f szV
  rw [w64 (by omega) (by omega)]
  split <;> rfl
theorem szV_range {n : Nat} {a : Int} (h : ¬ szV n a < 0) : (n : Int) ≤ a ∧ szV n a = a - n := by
  unfold szV at h ⊢
  split at h
  · omega
  · rename_i g
    rw [if_neg g]
    exact ⟨by omega, rfl⟩
end Go.Proofs.Ytecndndpjekjbaa.S

/- What the laws' helpers on slices of byte slices come to: a copy, a comparison, a size. For all that fit memory. -/
set_option linter.unusedVariables false
namespace Go.Proofs.Ytecndndpjekjbaa.S
open Go.RowKit Go.Proofs.YtecndndpjekjbaaW.PrintWords Go.Proofs.YtecndndpjekjbaaW.PrintLast Go.Proofs.YtecndndpjekjbaaW.PrintMore Go.Proofs.Ytecndndpjekjbaa.Base

theorem rdLL (ls : List (List Int)) (i : Nat) (h : i < ls.length) : rd_L1 ls (i : Int) = ls[i] := by
  unfold rd_L1
  simp [List.getD_eq_getElem?_getD, List.getElem?_eq_getElem h]
theorem toByteSS_l0 (ls : List (List Int)) (hl : ls.length ≤ 11728124029610) (hi : ∀ l ∈ ls, l.length ≤ 281474976710656) : ∀ (d : Nat) (x : List (List Int)) (i : Nat), i + d = ls.length → x.length = ls.length → (∀ j, j < i → x[j]? = ls[j]?) → Ev (fun k => laws_toByteSS.l0 k ls x (i : Int)) ls := by
  intro d
  induction d with
  | zero =>
    intro x i h hx hj
    refine ev_step (fun k => laws_toByteSS.l0.eq_2 _ _ _ _) (ev_neg (by omega) ?_)
    rw [fill_all hx (fun j h => hj j (by omega))]
    exact ev_now rfl
  | succ d ih =>
    intro x i h hx hj
    have hlt : i < ls.length := by omega
    refine ev_step (fun k => laws_toByteSS.l0.eq_2 _ _ _ _) (ev_pos (by omega) (ev_pos (by omega) ?_))
    rw [rdLL ls i hlt]
    refine ev_bind (toByteS_ev ls[i] (hi _ (List.getElem_mem _))) (ev_pos (by omega) ?_)
    rw [w64s (by omega), Int.toNat_natCast]
    refine ih _ (i + 1) (by omega) (by rw [List.length_set]; exact hx) (fun j hj' => ?_)
    rw [List.getElem?_set]
    by_cases e : i = j
    · subst e
      rw [if_pos rfl, if_pos (by omega), List.getElem?_eq_getElem hlt]
    · rw [if_neg e]
      exact hj j (by omega)
theorem toByteSS_ev (ls : List (List Int)) (hl : ls.length ≤ 11728124029610) (hi : ∀ l ∈ ls, l.length ≤ 281474976710656) : Ev (fun k => laws_toByteSS.f k ls) ls := by
  unfold laws_toByteSS.f
  exact ev_pos (by omega) (ev_pos (by omega) (toByteSS_l0 ls hl hi ls.length _ 0 (by omega) (by simp) (fun j h => by omega)))
theorem eqByteSS_l0 (ls : List (List Int)) (hl : ls.length ≤ 11728124029610) (hi : ∀ l ∈ ls, l.length ≤ 281474976710656) : ∀ (d i : Nat), i + d = ls.length → Ev (fun k => laws_eqByteSS.l0 k ls ls (i : Int)) true := by
  intro d
  induction d with
  | zero =>
    intro i h
    exact ev_step (fun k => laws_eqByteSS.l0.eq_2 _ _ _ _) (ev_neg (by omega) (ev_now rfl))
  | succ d ih =>
    intro i h
    have hlt : i < ls.length := by omega
    refine ev_step (fun k => laws_eqByteSS.l0.eq_2 _ _ _ _) (ev_pos (by omega) (ev_pos (by omega) (ev_pos (by omega) ?_)))
    rw [rdLL ls i hlt]
    refine ev_bind (eqByteS_ev ls[i] (hi _ (List.getElem_mem _))) (ev_pos rfl ?_)
    rw [w64s (by omega)]
    exact ih (i + 1) (by omega)
theorem eqByteSS_ev (ls : List (List Int)) (hl : ls.length ≤ 11728124029610) (hi : ∀ l ∈ ls, l.length ≤ 281474976710656) : Ev (fun k => laws_eqByteSS.f k ls ls) true := by
  unfold laws_eqByteSS.f
  exact ev_pos rfl (eqByteSS_l0 ls hl hi ls.length 0 (by omega))
theorem szByteSS_l0 (ls : List (List Int)) (hi : ∀ l ∈ ls, l.length ≤ 9223372036854775807) : ∀ (d i : Nat) (a : Int), i + d = ls.length → i ≤ 1048576 → ls.length ≤ 1048576 → 0 ≤ a → a ≤ 1048576 → ∃ r, Ev (fun k => laws_szByteSS.l0 k ls a (i : Int)) r ∧ r ≤ a ∧ (¬ r < 0 → ((ls.drop i).flatten.length : Int) + r = a) := by
  intro d
  induction d with
  | zero =>
    intro i a h _ _ ha hb
    refine ⟨a, ev_step (fun k => laws_szByteSS.l0.eq_2 _ _ _ _) (ev_neg (by omega) (ev_now rfl)), by omega, fun _ => ?_⟩
    rw [List.drop_of_length_le (by omega)]
    simp
  | succ d ih =>
    intro i a h h1 h2 ha hb
    have hlt : i < ls.length := by omega
    have e1 : (ls.drop i).flatten.length = ls[i].length + (ls.drop (i + 1)).flatten.length := by
      rw [List.drop_eq_getElem_cons hlt, List.flatten_cons, List.length_append]
    have hs := szByteS_eq ls[i] a (hi _ (List.getElem_mem _)) ha hb
    by_cases c : szV ls[i].length a < 0
    · refine ⟨-1, ev_step (fun k => laws_szByteSS.l0.eq_2 _ _ _ _) (ev_pos (by omega) (ev_pos (by omega) ?_)), by omega, fun g => absurd (by omega) g⟩
      rw [rdLL ls i hlt]
      exact ev_bind (ev_now hs) (ev_pos c (ev_now rfl))
    · obtain ⟨g1, g2⟩ := szV_range c
      obtain ⟨r, hr, hra, hrz⟩ := ih (i + 1) (szV ls[i].length a) (by omega) (by omega) h2 (by omega) (by omega)
      refine ⟨r, ev_step (fun k => laws_szByteSS.l0.eq_2 _ _ _ _) (ev_pos (by omega) (ev_pos (by omega) ?_)), by omega, fun g => ?_⟩
      · rw [rdLL ls i hlt]
        refine ev_bind (ev_now hs) (ev_neg c ?_)
        rw [w64s (by omega)]
        exact hr
      · have := hrz g
        rw [e1]
        omega
theorem szByteSS_ex (ls : List (List Int)) (hl : ls.length ≤ 9223372036854775807) (hi : ∀ l ∈ ls, l.length ≤ 9223372036854775807) (a : Int) (ha : 0 ≤ a) (hb : a ≤ 1048576) : ∃ r, Ev (fun k => laws_szByteSS.f k ls a) r ∧ r ≤ a ∧ (¬ r < 0 → (ls.length : Int) + (ls.flatten.length : Int) + r = a) := by
  unfold laws_szByteSS.f
  rw [w64 (by omega) (by omega)]
  by_cases c : a - (ls.length : Int) < 0
  · exact ⟨-1, ev_pos c (ev_now rfl), by omega, fun g => absurd (by omega) g⟩
  · obtain ⟨r, hr, hra, hrz⟩ := szByteSS_l0 ls hi ls.length 0 (a - (ls.length : Int)) (by omega) (by omega) (by omega) (by omega) (by omega)
    refine ⟨r, ev_neg c hr, by omega, fun g => ?_⟩
    have := hrz g
    rw [List.drop_zero] at this
    omega
theorem mem_flat {ls : List (List Int)} {l : List Int} (h : l ∈ ls) : l.length ≤ ls.flatten.length := by
  induction ls with
  | nil => cases h
  | cons x ls ih =>
    rw [List.flatten_cons, List.length_append]
    rcases List.mem_cons.1 h with rfl | h
    · omega
    · have := ih h
      omega
end Go.Proofs.Ytecndndpjekjbaa.S

/- Leaves that fit, and the tree's root and paths: what the program's and the reference's come to. For all leaves of bytes. -/
set_option linter.unusedVariables false
namespace Go.Proofs.Ytecndndpjekjbaa.S
open Go.RowKit Go.Proofs.YtecndndpjekjbaaW.PrintWords Go.Proofs.YtecndndpjekjbaaW.PrintLast Go.Proofs.YtecndndpjekjbaaW.PrintMore Go.Proofs.Ytecndndpjekjbaa.Base Go.Proofs.Ytecndndpjekjbaa.Sha

def Few (ls : List (List Int)) : Prop := ls.length ≤ 16 ∧ ∀ l ∈ ls, l.length ≤ 4000
instance (ls : List (List Int)) : Decidable (Few ls) := by unfold Few; infer_instance
theorem areLeaves_eq (ls : List (List Int)) : impl_areLeaves.f ls = some (decide (Few ls)) := by
  unfold impl_areLeaves.f
  congr 1
  rw [Bool.eq_iff_iff, decide_eq_true_iff, Bool.and_eq_true, decide_eq_true_iff, List.all_eq_true]
  constructor
  · rintro ⟨h1, h2⟩
    refine ⟨by omega, fun l hl => ?_⟩
    have := h2 l hl
    simp at this
    omega
  · rintro ⟨h1, h2⟩
    refine ⟨by omega, fun l hl => ?_⟩
    have := h2 l hl
    simp
    omega
theorem many_l0 (ls : List (List Int)) (h16 : ls.length ≤ 16) : ∀ (d i : Nat), i + d = ls.length → Ev (fun k => spec_l3Many.l0 k ls (i : Int)) (!decide (∀ l ∈ ls.drop i, l.length ≤ 4000)) := by
  intro d
  induction d with
  | zero =>
    intro i h
    rw [List.drop_of_length_le (by omega)]
    exact ev_step (fun k => spec_l3Many.l0.eq_2 _ _ _) (ev_neg (by omega) (ev_now (by simp)))
  | succ d ih =>
    intro i h
    have hlt : i < ls.length := by omega
    refine ev_step (fun k => spec_l3Many.l0.eq_2 _ _ _) (ev_pos (by omega) (ev_pos (by omega) ?_))
    rw [rdLL ls i hlt, List.drop_eq_getElem_cons hlt]
    by_cases c : ls[i].length > 4000
    · rw [decide_eq_false (fun g => by have := g ls[i] List.mem_cons_self; omega)]
      exact ev_pos (by omega) (ev_now rfl)
    · refine ev_neg (by omega) ?_
      rw [w64s (by omega)]
      refine ev_eq (ih (i + 1) (by omega)) ?_
      congr 1
      rw [decide_eq_decide]
      constructor
      · intro g l hl
        rcases List.mem_cons.1 hl with rfl | hl
        · omega
        · exact g l hl
      · exact fun g l hl => g l (List.mem_cons_of_mem _ hl)
theorem many_ev (ls : List (List Int)) : Ev (fun k => spec_l3Many.f k ls) (!decide (Few ls)) := by
  unfold spec_l3Many.f
  by_cases c : ls.length ≤ 16
  · have h := many_l0 ls c ls.length 0 (by omega)
    rw [List.drop_zero] at h
    refine ev_neg (by omega) (ev_eq h ?_)
    congr 1
    rw [decide_eq_decide]
    exact ⟨fun g => ⟨c, g⟩, fun g => g.2⟩
  · rw [decide_eq_false (fun g : Few ls => c g.1)]
    exact ev_pos (by omega) (ev_now rfl)
theorem few_leaves {ls : List (List Int)} (h : Few ls) (hb : ∀ l ∈ ls, Byt l) : Leaves ls := ⟨h.1, fun l hl => ⟨hb l hl, by have := h.2 l hl; omega⟩⟩
end Go.Proofs.Ytecndndpjekjbaa.S

/- Is a number in its bounds: the program's and the reference's answer. -/
set_option linter.unusedVariables false
namespace Go.Proofs.Ytecndndpjekjbaa.S
open Go.RowKit Go.Proofs.YtecndndpjekjbaaW.PrintWords Go.Proofs.YtecndndpjekjbaaW.PrintLast Go.Proofs.YtecndndpjekjbaaW.PrintMore Go.Proofs.Ytecndndpjekjbaa.Base

theorem in_eq (a b c : Int) : impl_in.f a b c = some (decide (b ≤ a ∧ a ≤ c)) := by
  unfold impl_in.f
  by_cases h : b ≤ a <;> simp [h]
theorem l1In_eq (a b c : Int) : spec_l1In.f a b c = some (decide (b ≤ a ∧ a ≤ c)) := by
  unfold spec_l1In.f
  by_cases h : b ≤ a <;> simp [h]
end Go.Proofs.Ytecndndpjekjbaa.S

/- Paths in a tree: the program's and the reference's come to the same. For up to 16 leaves that fit. -/
set_option linter.unusedVariables false
namespace Go.Proofs.Ytecndndpjekjbaa.S
open Go.RowKit Go.Proofs.YtecndndpjekjbaaW.PrintWords Go.Proofs.YtecndndpjekjbaaW.PrintLast Go.Proofs.YtecndndpjekjbaaW.PrintMore Go.Proofs.Ytecndndpjekjbaa.Base Go.Proofs.Ytecndndpjekjbaa.Sha

def pathV : Nat → List (List Int) → Int → List (List Int)
  | 0, _, _ => []
  | m + 1, ls, a => if ls.length = 1 then [] else if a < (cutV ls.length : Int) then pathV m (ls.take (cutV ls.length)) a ++ [root (ls.drop (cutV ls.length))] else pathV m (ls.drop (cutV ls.length)) (a - (cutV ls.length : Int)) ++ [root (ls.take (cutV ls.length))]
theorem pathV_ok : ∀ (m : Nat) (ls : List (List Int)) (a : Int), ls.length ≤ 16 → (pathV m ls a).length ≤ m ∧ ∀ l ∈ pathV m ls a, l.length = 32 := by
  intro m
  induction m with
  | zero => intro ls a h; exact ⟨Nat.le_refl _, fun l hl => (by cases hl)⟩
  | succ m ih =>
    intro ls a h
    have t1 : (ls.take (cutV ls.length)).length ≤ 16 := by rw [List.length_take]; omega
    have t2 : (ls.drop (cutV ls.length)).length ≤ 16 := by rw [List.length_drop]; omega
    have r1 := root_length t1
    have r2 := root_length t2
    unfold pathV
    generalize root (ls.take (cutV ls.length)) = q1 at *
    generalize root (ls.drop (cutV ls.length)) = q2 at *
    by_cases c1 : ls.length = 1
    · rw [if_pos c1]; exact ⟨Nat.zero_le _, fun l hl => (by cases hl)⟩
    rw [if_neg c1]
    by_cases c2 : a < (cutV ls.length : Int)
    · rw [if_pos c2]
      obtain ⟨i1, i2⟩ := ih (ls.take (cutV ls.length)) a t1
      refine ⟨by rw [List.length_append, List.length_singleton]; omega, fun l hl => ?_⟩
      rcases List.mem_append.1 hl with hl | hl
      · exact i2 l hl
      · rw [List.mem_singleton.1 hl]; exact r2
    · rw [if_neg c2]
      obtain ⟨i1, i2⟩ := ih (ls.drop (cutV ls.length)) (a - (cutV ls.length : Int)) t2
      refine ⟨by rw [List.length_append, List.length_singleton]; omega, fun l hl => ?_⟩
      rcases List.mem_append.1 hl with hl | hl
      · exact i2 l hl
      · rw [List.mem_singleton.1 hl]; exact r1
theorem path_ev : ∀ (m : Nat) (ls : List (List Int)) (a : Int), m ≤ 1000 → ls.length ≤ m → Leaves ls → 0 ≤ a → a < ls.length → Ev (fun k => impl_pathOf.f k ls a) (pathV m ls a) ∧ Ev (fun k => spec_l3Path.f k ls a) (pathV m ls a) := by
  intro m
  induction m with
  | zero => intro ls a hm h hL h0 h1; omega
  | succ m ih =>
    intro ls a hm h hL h0 h1
    by_cases c1 : ls.length = 1
    · unfold pathV
      rw [if_pos c1]
      exact ⟨ev_step (fun k => impl_pathOf.f.eq_2 _ _ _) (ev_pos (by omega) (ev_now rfl)), ev_step (fun k => spec_l3Path.f.eq_2 _ _ _) (ev_pos (by omega) (ev_now rfl))⟩
    · have hl := hL.1
      have hc := cutV_range (n := ls.length) (by omega) hl
      have hcc := cutV_cast (n := ls.length) (by omega) hl
      have hs := spec_split_ev (n := (ls.length : Int)) (by omega) (by omega)
      have hi := impl_split_ev (n := (ls.length : Int)) (by omega) (by omega)
      rw [← hcc] at hs hi
      unfold pathV
      rw [if_neg c1]
      generalize cutV ls.length = v at *
      have t1 : (ls.take v).length = v := by rw [List.length_take]; omega
      have t2 : (ls.drop v).length = ls.length - v := by rw [List.length_drop]
      have i1 := impl_root_ev (hL.take v)
      have i2 := impl_root_ev (hL.drop v)
      have s1 := spec_root_ev (hL.take v)
      have s2 := spec_root_ev (hL.drop v)
      by_cases c2 : a < (v : Int)
      · rw [if_pos c2]
        obtain ⟨p1, p2⟩ := ih (ls.take v) a (by omega) (by omega) (hL.take v) h0 (by omega)
        obtain ⟨o1, _⟩ := pathV_ok m (ls.take v) a (by omega)
        refine ⟨ev_step (fun k => impl_pathOf.f.eq_2 _ _ _) (ev_neg (by omega) (ev_bind hi (ev_pos c2 (ev_pos (by omega) (ev_pos (by omega) ?_))))), ev_step (fun k => spec_l3Path.f.eq_2 _ _ _) (ev_neg (by omega) (ev_bind hs (ev_pos c2 (ev_pos (by omega) (ev_pos (by omega) ?_)))))⟩
        · rw [Int.toNat_natCast]
          exact ev_bind p1 (ev_bind i2 (ev_pos (by omega) (ev_now rfl)))
        · rw [Int.toNat_natCast]
          exact ev_bind p2 (ev_bind s2 (ev_pos (by omega) (ev_now rfl)))
      · rw [if_neg c2]
        obtain ⟨p1, p2⟩ := ih (ls.drop v) (a - (v : Int)) (by omega) (by omega) (hL.drop v) (by omega) (by omega)
        obtain ⟨o1, _⟩ := pathV_ok m (ls.drop v) (a - (v : Int)) (by omega)
        refine ⟨ev_step (fun k => impl_pathOf.f.eq_2 _ _ _) (ev_neg (by omega) (ev_bind hi (ev_neg c2 (ev_pos (by omega) (ev_pos (by omega) ?_))))), ev_step (fun k => spec_l3Path.f.eq_2 _ _ _) (ev_neg (by omega) (ev_bind hs (ev_neg c2 (ev_pos (by omega) (ev_pos (by omega) ?_)))))⟩
        · rw [Int.toNat_natCast, w64 (n := a - (v : Int)) (by omega) (by omega)]
          exact ev_bind p1 (ev_bind i1 (ev_pos (by omega) (ev_now rfl)))
        · rw [Int.toNat_natCast, w64 (n := a - (v : Int)) (by omega) (by omega)]
          exact ev_bind p2 (ev_bind s1 (ev_pos (by omega) (ev_now rfl)))
def proveV (ls : List (List Int)) (a : Int) : Int × Int × Int × List (List Int) := if Few ls then (if 0 ≤ a ∧ a ≤ (ls.length : Int) - 1 then (0, a, (ls.length : Int), pathV 16 ls a) else (3, 0, 0, [])) else (2, 0, 0, [])
theorem proveV_ok (ls : List (List Int)) (a : Int) : (proveV ls a).2.2.2.length ≤ 16 ∧ ∀ l ∈ (proveV ls a).2.2.2, l.length = 32 := by
  unfold proveV
  by_cases c : Few ls
  · have h := pathV_ok 16 ls a c.1
    rw [if_pos c]
    by_cases d : 0 ≤ a ∧ a ≤ (ls.length : Int) - 1
    · rw [if_pos d]; exact h
    · rw [if_neg d]; exact ⟨Nat.zero_le _, fun l hl => (by cases hl)⟩
  · rw [if_neg c]; exact ⟨Nat.zero_le _, fun l hl => (by cases hl)⟩
theorem impl_ProveLeaf_ev {ls : List (List Int)} (hb : ∀ l ∈ ls, Byt l) (a : Int) : Ev (fun k => impl_ProveLeaf.f k ls a) (proveV ls a) := by
  unfold impl_ProveLeaf.f proveV
  refine ev_bind (ev_now (areLeaves_eq ls)) ?_
  by_cases c : Few ls
  · rw [if_pos c]
    have h16 := c.1
    refine ev_pos (decide_eq_true c) ?_
    rw [w64 (n := (ls.length : Int) - 1) (by omega) (by omega)]
    refine ev_bind (ev_now (in_eq _ _ _)) ?_
    by_cases d : 0 ≤ a ∧ a ≤ (ls.length : Int) - 1
    · rw [if_pos d]
      have hp := (path_ev 16 ls a (by omega) c.1 (few_leaves c hb) d.1 (by omega)).1
      refine ev_pos (decide_eq_true d) (ev_bind (a := (a, (ls.length : Int), pathV 16 ls a)) ?_ (ev_now rfl))
      unfold impl_proveLeaf.f
      exact ev_bind hp (ev_now rfl)
    · rw [if_neg d]
      exact ev_neg (fun g => d (of_decide_eq_true g)) (ev_now rfl)
  · rw [if_neg c]
    exact ev_neg (fun g => c (of_decide_eq_true g)) (ev_now rfl)
theorem spec_ProveLeaf_ev {ls : List (List Int)} (hb : ∀ l ∈ ls, Byt l) (a : Int) : Ev (fun k => spec_ProveLeaf.f k ls a) (proveV ls a) := by
  unfold spec_ProveLeaf.f proveV
  refine ev_bind (many_ev ls) ?_
  by_cases c : Few ls
  · rw [if_pos c]
    have h16 := c.1
    refine ev_neg (by rw [decide_eq_true c]; decide) ?_
    rw [w64 (n := (ls.length : Int) - 1) (by omega) (by omega)]
    refine ev_bind (ev_now (l1In_eq _ _ _)) ?_
    by_cases d : 0 ≤ a ∧ a ≤ (ls.length : Int) - 1
    · rw [if_pos d]
      have hp := (path_ev 16 ls a (by omega) c.1 (few_leaves c hb) d.1 (by omega)).2
      refine ev_pos (decide_eq_true d) (ev_bind (a := (a, (ls.length : Int), pathV 16 ls a)) ?_ (ev_now rfl))
      unfold spec_l3Prove.f
      exact ev_bind hp (ev_now rfl)
    · rw [if_neg d]
      exact ev_neg (fun g => d (of_decide_eq_true g)) (ev_now rfl)
  · rw [if_neg c]
    exact ev_pos (by rw [decide_eq_false c]; rfl) (ev_now rfl)
end Go.Proofs.Ytecndndpjekjbaa.S

/- What the laws' markByteS and heldByteS come to: places are numbered from a start on, and found numbered so. For every slice and start that fit. -/
set_option linter.unusedVariables false
namespace Go.Proofs.Ytecndndpjekjbaa.S
open Go.RowKit Go.Proofs.YtecndndpjekjbaaW.PrintWords Go.Proofs.YtecndndpjekjbaaW.PrintLast Go.Proofs.YtecndndpjekjbaaW.PrintMore Go.Proofs.Ytecndndpjekjbaa.Base

/-- n places numbered from a on. -/
def marked (a : Int) (n : Nat) : List Int := (List.range n).map fun (j : Nat) => (a + (j : Int)) % 256
theorem marked_length (a : Int) (n : Nat) : (marked a n).length = n := by simp [marked]
theorem marked_at (a : Int) (n j : Nat) (h : j < n) : (marked a n)[j]? = some ((a + (j : Int)) % 256) := by
  simp [marked, List.getElem?_map, List.getElem?_range h]
theorem markByteS_l0 (a : Int) (n : Nat) (h0 : 0 ≤ a) (h1 : a + n ≤ 4611686018427387904) : ∀ (d i : Nat) (x : List Int), i + d = n → x.length = n → (∀ j, j < i → x[j]? = (marked a n)[j]?) → Ev (fun k => laws_markByteS.l0 k x (a + (i : Int)) (i : Int)) (a + (n : Int), marked a n) := by
  intro d
  induction d with
  | zero =>
    intro i x hi hx hj
    refine ev_step (fun k => laws_markByteS.l0.eq_2 _ _ _ _) (ev_neg (by omega) ?_)
    have e : x = marked a n := fill_all (by rw [marked_length]; exact hx) (fun j h => hj j (by rw [marked_length] at h; omega))
    rw [e, show i = n by omega]
    exact ev_now rfl
  | succ d ih =>
    intro i x hi hx hj
    refine ev_step (fun k => laws_markByteS.l0.eq_2 _ _ _ _) (ev_pos (by omega) (ev_pos (by omega) ?_))
    rw [w64s (by omega), w64 (n := a + (i : Int) + 1) (by omega) (by omega), Int.toNat_natCast, show a + (i : Int) + 1 = a + ((i + 1 : Nat) : Int) by omega]
    refine ih (i + 1) _ (by omega) (by rw [List.length_set]; exact hx) ?_
    intro j hj'
    rw [List.getElem?_set]
    by_cases e : i = j
    · subst e
      rw [if_pos rfl, if_pos (by omega), marked_at a n i (by omega)]
    · rw [if_neg e]; exact hj j (by omega)
theorem markByteS_ev (l : List Int) (a : Int) (h0 : 0 ≤ a) (h1 : a + l.length ≤ 4611686018427387904) : Ev (fun k => laws_markByteS.f k l a) (a + (l.length : Int), marked a l.length) := by
  have h := markByteS_l0 a l.length h0 h1 l.length 0 l (by omega) rfl (fun j h => by omega)
  rw [show a + ((0 : Nat) : Int) = a by omega] at h
  exact h
theorem heldByteS_l0 (a : Int) (n : Nat) (h0 : 0 ≤ a) (h1 : a + n ≤ 4611686018427387904) : ∀ (d i : Nat), i + d = n → Ev (fun k => laws_heldByteS.l0 k (marked a n) (a + (i : Int)) (i : Int)) (a + (n : Int)) := by
  intro d
  induction d with
  | zero =>
    intro i hi
    refine ev_step (fun k => laws_heldByteS.l0.eq_2 _ _ _ _) (ev_neg (by rw [marked_length]; omega) ?_)
    rw [show i = n by omega]
    exact ev_now rfl
  | succ d ih =>
    intro i hi
    refine ev_step (fun k => laws_heldByteS.l0.eq_2 _ _ _ _) (ev_pos (by rw [marked_length]; omega) (ev_pos (by omega) (ev_pos ?_ ?_)))
    · unfold rd
      rw [List.getD_eq_getElem?_getD, Int.toNat_natCast, marked_at a n i (by omega)]
      rfl
    · rw [w64s (by omega), w64 (n := a + (i : Int) + 1) (by omega) (by omega), show a + (i : Int) + 1 = a + ((i + 1 : Nat) : Int) by omega]
      exact ih (i + 1) (by omega)
theorem heldByteS_ev (n : Nat) (a : Int) (h0 : 0 ≤ a) (h1 : a + n ≤ 4611686018427387904) : Ev (fun k => laws_heldByteS.f k (marked a n) a) (a + (n : Int)) := by
  have h := heldByteS_l0 a n h0 h1 n 0 (by omega)
  rw [show a + ((0 : Nat) : Int) = a by omega] at h
  exact h
end Go.Proofs.Ytecndndpjekjbaa.S

/- Rows of rows of the call's own, no two of which share memory; where in memory they lie; what the laws' marks make of them. No condition beyond those in the statements. -/
set_option linter.unusedVariables false
set_option linter.unusedSimpArgs false
namespace Go.Proofs.Ytecndndpjekjbaa.S
open Go Go.RowKit Go.Proofs.YtecndndpjekjbaaW.PrintWords Go.Proofs.YtecndndpjekjbaaW.PrintLast Go.Proofs.YtecndndpjekjbaaW.PrintMore Go.Proofs.Ytecndndpjekjbaa.Base

def In (lo hi : Nat) : Nat → Prop := fun k => lo ≤ k ∧ k < hi
theorem In_apart {lo hi a b : Nat} (h : hi ≤ a ∨ b ≤ lo) : ∀ k, In lo hi k → ¬ In a b k := fun k h1 h2 => by
  unfold In at h1 h2
  omega
/-- A row that was made lies in the blocks that are new. -/
theorem F_in {α : Type} {d : Kd α} {e base : Nat} {ok : Nat → Prop} {w : World} {v : Value} {xs : List α} (h : d.R e w base ok v xs) : ∃ A c, v = .slice A xs.length c ∧ xs.length ≤ c ∧ Kd.F d w (In base w.heap.size) A xs.length xs := by
  obtain ⟨A, c, rfl⟩ := Kd.R_slice h
  exact ⟨A, c, rfl, (Kd.R_reads' h).2.1, Kd.F_mono (Kd.R_F (Kd.R_bound h)) (fun k hk => ⟨hk.2.1, hk.2.2.1⟩)⟩
theorem F_keptIn {α : Type} {d : Kd α} {w w1 : World} {lo hi a b n : Nat} {A : Option Addr} {xs : List α} (h : Kd.F d w (In lo hi) A n xs) (hk : Kept w w1 (In a b)) (hd : hi ≤ a ∨ b ≤ lo) : Kd.F d w1 (In lo hi) A n xs := Kd.F_kept h hk (In_apart hd)
theorem add_block (ad : Addr) (i : Nat) : (ad.add i).block = ad.block := by
  unfold Addr.add
  split <;> rfl
/-- Rows of bytes, each its own memory, all between lo and hi. -/
def AR (base : Nat) (w : World) (lo hi : Nat) (A : Option Addr) (ls : List (List Int)) : Prop :=
  ls.length ≤ 9223372036854775807 ∧ (ls = [] ∨ ∃ (ad : Addr) (vs : Nat → Value), A = some ad ∧ (lo ≤ ad.block ∧ ad.block < hi) ∧
    (∀ i, (h : i < ls.length) → w.cell? (ad.add i) = some (vs i) ∧ Kd.R (Kd.int .u8) 5 w base (fun k => some k = (vs i).ownBlock) (vs i) ls[i]) ∧
    (∀ i k, i < ls.length → (vs i).ownBlock = some k → (lo ≤ k ∧ k < hi) ∧ k ≠ ad.block) ∧
    (∀ i j k, i < ls.length → j < ls.length → i ≠ j → (vs i).ownBlock = some k → (vs j).ownBlock ≠ some k))
section
variable {base lo hi a b : Nat} {w w1 : World} {A : Option Addr} {ls : List (List Int)}
theorem AR.below (h : AR base w lo hi A ls) (hb : Below w.heap.size w w1) : AR base w1 lo hi A ls := by
  refine ⟨h.1, h.2.imp id ?_⟩
  rintro ⟨ad, vs, hA, hg, hr, hin, hap⟩
  exact ⟨ad, vs, hA, hg, fun i hi => ⟨(hb.cell (World.block_lt_of_cell? w _ (hr i hi).1)).trans (hr i hi).1, Kd.R_below (hr i hi).2 hb⟩, hin, hap⟩
theorem AR.kept (h : AR base w lo hi A ls) (hk : Kept w w1 (In a b)) (hd : hi ≤ a ∨ b ≤ lo) : AR base w1 lo hi A ls := by
  refine ⟨h.1, h.2.imp id ?_⟩
  rintro ⟨ad, vs, hA, hg, hr, hin, hap⟩
  exact ⟨ad, vs, hA, hg, fun i hi => ⟨cell_kept (hr i hi).1 hk (by rw [add_block]; exact In_apart hd _ hg), Kd.R_kept (hr i hi).2 hk (fun k hk2 => In_apart hd k (hin i k hi hk2.symm).1)⟩, hin, hap⟩
theorem AR.foot (h : AR base w lo hi A ls) : Kd.F (Kd.slice 5 (Kd.int .u8)) w (In lo hi) A ls.length ls := fun W' hW => by
  refine ⟨rfl, h.1, fun hp => ?_⟩
  rcases h.2 with rfl | ⟨ad, vs, hA, hg, hr, hin, hap⟩
  · simp at hp
  refine ⟨ad, hA, fun j p hj => ?_⟩
  obtain ⟨hjl, hpj⟩ := List.getElem?_eq_some_iff.1 hj
  obtain ⟨hc, hR⟩ := hr j hjl
  have hR2 : Kd.R (Kd.int .u8) 5 W' base (fun k => some k = (vs j).ownBlock) (vs j) ls[j] := Kd.R_step hR (fun k ho hlt => hW k (hin j k hjl ho.symm).1 hlt)
  rw [hpj] at hR2
  obtain ⟨A', c', hv⟩ := Kd.R_slice hR2
  rw [hv] at hR2
  obtain ⟨_, h2, h3⟩ := Kd.R_reads' hR2
  refine ⟨[vs j], rfl, ⟨A', c', by rw [hv], h2, h3⟩, fun i u hu => ?_⟩
  cases i with
  | zero =>
    have e1 : vs j = u := by simpa using hu
    rw [← e1]
    show W'.cell? (ad.add (j * 1 + 0)) = _
    rw [Nat.mul_one, Nat.add_zero]
    have hb := hW ad.block hg (by have := World.block_lt_of_cell? w _ hc; rwa [add_block] at this)
    rw [← hc]
    unfold World.cell?
    rw [add_block, hb]
  | succ i => simp at hu
/-- A cut of such rows. -/
theorem AR.drop (h : AR base w lo hi A ls) (m c : Nat) (hm : m ≤ ls.length) (hc : ls.length ≤ c) : AR base w lo hi (if c = m then A else A.map (·.add m)) (ls.drop m) := by
  refine ⟨by have := h.1; rw [List.length_drop]; omega, ?_⟩
  rcases h.2 with rfl | ⟨ad, vs, hA, hg, hr, hin, hap⟩
  · exact .inl (by simp)
  by_cases hz : ls.length = m
  · exact .inl (List.drop_of_length_le (by omega))
  refine .inr ⟨ad.add m, fun i => vs (m + i), by rw [if_neg (by omega), hA]; rfl, by rw [add_block]; exact hg, fun i hi => ?_, fun i k hi hk => ?_, fun i j k hi hj hij hk => ?_⟩
  · have hi2 : m + i < ls.length := by rw [List.length_drop] at hi; omega
    obtain ⟨h1, h2⟩ := hr (m + i) hi2
    have ha : (ad.add m).add i = ad.add (m + i) := by
      unfold Addr.add
      by_cases h1 : m = 0 <;> by_cases h2 : i = 0 <;> simp [h1, h2, Nat.add_assoc]
    refine ⟨by rw [ha]; exact h1, ?_⟩
    rw [List.getElem_drop]
    exact h2
  · rw [List.length_drop] at hi
    rw [add_block]
    exact hin (m + i) k (by omega) hk
  · rw [List.length_drop] at hi hj
    exact hap (m + i) (m + j) k (by omega) (by omega) (by omega) hk
theorem AR.take (h : AR base w lo hi A ls) (m : Nat) : AR base w lo hi A (ls.take m) := by
  refine ⟨by have := h.1; rw [List.length_take]; omega, ?_⟩
  rcases h.2 with rfl | ⟨ad, vs, hA, hg, hr, hin, hap⟩
  · exact .inl (by simp)
  refine .inr ⟨ad, vs, hA, hg, fun i hi => ?_, fun i k hi hk => ?_, fun i j k hi hj hij hk => ?_⟩
  · rw [List.length_take] at hi
    rw [List.getElem_take]
    exact hr i (by omega)
  · rw [List.length_take] at hi
    exact hin i k (by omega) hk
  · rw [List.length_take] at hi hj
    exact hap i j k (by omega) (by omega) hij hk
theorem AR.nil (base : Nat) (w : World) (lo hi : Nat) (A : Option Addr) : AR base w lo hi A [] := ⟨by simp, .inl rfl⟩
end
/-- What the printed walks call apart is so. -/
theorem AR_of_S {e base base0 : Nat} {ok : Nat → Prop} {w : World} {v : Value} {ls : List (List Int)} (h : Kd.S (Kd.slice 5 (Kd.int .u8)) e w base0 ok v ls) (hb : base ≤ base0) :
    ∃ A c, v = .slice A ls.length c ∧ ls.length ≤ c ∧ AR base w base0 w.heap.size A ls := by
  have hR := Kd.S_R h
  obtain ⟨A, c, rfl⟩ := Kd.R_slice hR
  obtain ⟨_, hc, hC⟩ := Kd.R_reads' hR
  refine ⟨A, c, rfl, hc, hC.2.1, ?_⟩
  by_cases hz : ls = []
  · exact .inl hz
  have hp : 0 < ls.length := by cases ls with
    | nil => exact absurd rfl hz
    | cons x l => simp
  obtain ⟨f, hf⟩ := h
  obtain ⟨g, cap, hv, hg0, hg1, cells, hcells⟩ := Kd.R_form hR hp
  injection hv with hv1 hv2 hv3
  subst hv1
  have each : ∀ i, (hi : i < ls.length) → ∃ u, w.cell? ⟨g, i, none⟩ = some u ∧ Kd.R (Kd.int .u8) 5 w base0 (fun k => (ok k ∧ k ≠ g) ∧ f k = i) u ls[i] := fun i hi => by
    obtain ⟨cs, hcl, hM, hcc, _⟩ := Kd.R_elem (d := Kd.tag f (Kd.slice 5 (Kd.int .u8))) hf ([], 0) (i : Int) (by omega) (by omega)
    have e1 : ls.zipIdx.getD (i : Int).toNat ([], 0) = (ls[i], i) := by
      rw [Int.toNat_natCast, List.getD_eq_getElem?_getD, Kd.zip_at (List.getElem?_eq_getElem hi)]
      rfl
    rw [e1] at hM
    obtain ⟨u, rfl, hu⟩ := hM
    refine ⟨u, ?_, hu⟩
    have h1 := hcc 0 u rfl
    rw [Int.toNat_natCast] at h1
    have h2 : w.cell? ⟨g, i * 1 + 0, none⟩ = some u := h1
    rwa [Nat.mul_one, Nat.add_zero] at h2
  refine .inr ⟨⟨g, 0, none⟩, fun i => (w.cell? ⟨g, i, none⟩).getD (.bool false), rfl, ⟨hg0, hg1⟩, fun i hi => ?_, fun i k hi hk => ?_, fun i j k hi hj hij hk hk2 => ?_⟩
  · obtain ⟨u, hu, hr⟩ := each i hi
    rw [add_plain]
    simp only [hu, Option.getD_some]
    exact ⟨trivial, Kd.R_lower (Kd.R_tight rfl hr) hb⟩
  · obtain ⟨u, hu, hr⟩ := each i hi
    simp only [hu, Option.getD_some] at hk
    have := (Kd.R_bound hr).1 k hk
    exact ⟨⟨this.2.1, this.2.2.1⟩, this.1.1.2⟩
  · obtain ⟨u, hu, hr⟩ := each i hi
    obtain ⟨u2, hu2, hr2⟩ := each j hj
    simp only [hu, Option.getD_some] at hk
    simp only [hu2, Option.getD_some] at hk2
    have h1 := (hr.1 k hk).2
    have h2 := (hr2.1 k hk2).2
    omega
/-! The marks. -/
def markAll (a : Int) : List (List Int) → List (List Int)
  | [] => []
  | l :: r => marked a l.length :: markAll (a + (l.length : Int)) r
theorem markAll_length : ∀ (ls : List (List Int)) (a : Int), (markAll a ls).length = ls.length
  | [], _ => rfl
  | l :: r, a => by simp [markAll, markAll_length r]
/-- Where row i's marks begin. -/
def offs (ls : List (List Int)) (i : Nat) : Nat := (ls.take i).flatten.length
theorem offs_step (ls : List (List Int)) (i : Nat) (h : i < ls.length) : offs ls (i + 1) = offs ls i + ls[i].length := by
  unfold offs
  rw [List.take_succ_eq_append_getElem h, List.flatten_append, List.length_append]
  simp
theorem offs_le (ls : List (List Int)) (i : Nat) : offs ls i ≤ ls.flatten.length := by
  unfold offs
  have h := congrArg List.length (congrArg List.flatten (List.take_append_drop i ls))
  rw [List.flatten_append, List.length_append] at h
  omega
theorem markAll_get : ∀ (ls : List (List Int)) (a : Int) (i : Nat) (h : i < ls.length), (markAll a ls)[i]? = some (marked (a + (offs ls i : Int)) ls[i].length)
  | [], _, i, h => by simp at h
  | l :: r, a, 0, h => by simp [markAll, offs]
  | l :: r, a, i + 1, h => by
    have h2 : i < r.length := by simpa using h
    have e : offs (l :: r) (i + 1) = l.length + offs r i := by simp [offs]
    show (markAll (a + (l.length : Int)) r)[i]? = _
    rw [markAll_get r (a + (l.length : Int)) i h2, e]
    simp only [List.getElem_cons_succ]
    rw [show a + (l.length : Int) + (offs r i : Int) = a + ((l.length + offs r i : Nat) : Int) by omega]
def midSS (a : Int) (ls : List (List Int)) (i : Nat) : List (List Int) := (markAll a ls).take i ++ ls.drop i
theorem midSS_length (a : Int) (ls : List (List Int)) (i : Nat) (h : i ≤ ls.length) : (midSS a ls i).length = ls.length := by
  simp [midSS, markAll_length]
  omega
theorem midSS_get (a : Int) (ls : List (List Int)) (i : Nat) (h : i < ls.length) : (midSS a ls i)[i]? = some ls[i] := by
  have hl : ((markAll a ls).take i).length = i := by rw [List.length_take, markAll_length]; omega
  unfold midSS
  rw [List.getElem?_append_right (by omega), hl, Nat.sub_self, List.getElem?_drop]
  simp [h]
theorem midSS_step (a : Int) (ls : List (List Int)) (i : Nat) (h : i < ls.length) : (midSS a ls i).set i (marked (a + (offs ls i : Int)) ls[i].length) = midSS a ls (i + 1) := by
  have hl : ((markAll a ls).take i).length = i := by rw [List.length_take, markAll_length]; omega
  have hg := markAll_get ls a i h
  have hlt : i < (markAll a ls).length := by rw [markAll_length]; exact h
  rw [List.getElem?_eq_getElem hlt] at hg
  have hg := Option.some.inj hg
  unfold midSS
  rw [List.set_append_right _ _ (by omega), hl, Nat.sub_self, List.drop_eq_getElem_cons h, List.set_cons_zero, List.take_succ_eq_append_getElem hlt, hg, List.append_assoc]
  rfl
theorem midSS_all (a : Int) (ls : List (List Int)) : midSS a ls ls.length = markAll a ls := by
  unfold midSS
  rw [List.take_of_length_le (by rw [markAll_length]; exact Nat.le_refl _), List.drop_of_length_le (Nat.le_refl _), List.append_nil]
/-- One row is written. -/
theorem AR.put {base lo hi : Nat} {w w1 : World} {ad : Addr} {vs : Nat → Value} {ls : List (List Int)} {i : Nat} {l2 : List Int} (hlen : ls.length ≤ 9223372036854775807) (hg : lo ≤ ad.block ∧ ad.block < hi)
    (hr : ∀ i, (h : i < ls.length) → w.cell? (ad.add i) = some (vs i) ∧ Kd.R (Kd.int .u8) 5 w base (fun k => some k = (vs i).ownBlock) (vs i) ls[i])
    (hin : ∀ i k, i < ls.length → (vs i).ownBlock = some k → (lo ≤ k ∧ k < hi) ∧ k ≠ ad.block)
    (hap : ∀ i j k, i < ls.length → j < ls.length → i ≠ j → (vs i).ownBlock = some k → (vs j).ownBlock ≠ some k)
    (hi_ : i < ls.length) (h2 : Kd.R (Kd.int .u8) 5 w1 base (fun k => some k = (vs i).ownBlock) (vs i) l2) (hk : Kept w w1 (fun k => some k = (vs i).ownBlock)) :
    (∀ j, (h : j < (ls.set i l2).length) → w1.cell? (ad.add j) = some (vs j) ∧ Kd.R (Kd.int .u8) 5 w1 base (fun k => some k = (vs j).ownBlock) (vs j) (ls.set i l2)[j]) := by
  intro j hj
  have hj2 : j < ls.length := by simpa using hj
  obtain ⟨hc, hR⟩ := hr j hj2
  refine ⟨cell_kept hc hk (by rw [add_block]; exact fun e => (hin i _ hi_ e.symm).2 rfl), ?_⟩
  rw [List.getElem_set]
  split
  · rename_i e
    subst e
    exact h2
  · rename_i e
    exact Kd.R_kept hR hk (fun k hk1 hk2 => hap i j k hi_ hj2 e hk2.symm hk1.symm)
end Go.Proofs.Ytecndndpjekjbaa.S
namespace Go.Proofs.Ytecndndpjekjbaa.S
open Go Go.RowKit Go.Proofs.YtecndndpjekjbaaW.PrintWords Go.Proofs.YtecndndpjekjbaaW.PrintLast Go.Proofs.YtecndndpjekjbaaW.PrintMore Go.Proofs.Ytecndndpjekjbaa.Base
/-- Where a walk stands still: its goal under a word. -/
def Hold (p : Prop) : Prop := p
theorem hold_here {p : Prop} (h : Hold p) : p := h
theorem hold_go {p : Prop} (h : p) : Hold p := h
theorem AR.drewN {base lo hi : Nat} {w : World} {A : Option Addr} {ls : List (List Int)} (h : AR base w lo hi A ls) (n : Nat) : AR base (w.drewN n) lo hi A ls := h.below (pw_below_drewN (Below.refl _ _) n)
theorem AR.drew {base lo hi : Nat} {w : World} {A : Option Addr} {ls : List (List Int)} (h : AR base w lo hi A ls) : AR base w.drew lo hi A ls := h.below (below_drew1 (Below.refl _ _))
theorem AR.alloc {base lo hi : Nat} {w : World} {A : Option Addr} {ls : List (List Int)} (h : AR base w lo hi A ls) (o : Obj) : AR base (w.alloc o) lo hi A ls := h.below (below_alloc (Below.refl _ _) o)
/-- A row of bytes of the call's own, between lo and hi. -/
theorem B_of_R {e base base0 : Nat} {ok : Nat → Prop} {w : World} {v : Value} {xs : List Int} (h : Kd.R (Kd.int .u8) e w base0 ok v xs) (hb : base ≤ base0) :
    ∃ A c, v = .slice A xs.length c ∧ Kd.R (Kd.int .u8) e w base (In base0 w.heap.size) (.slice A xs.length c) xs := by
  obtain ⟨A, c, rfl⟩ := Kd.R_slice h
  exact ⟨A, c, rfl, Kd.R_lower (Kd.R_mono (Kd.R_bound h) (fun k hk => ⟨hk.2.1, hk.2.2.1⟩)) hb⟩
theorem B_kept {e base lo hi a b : Nat} {w w1 : World} {v : Value} {xs : List Int} (h : Kd.R (Kd.int .u8) e w base (In lo hi) v xs) (hk : Kept w w1 (In a b)) (hd : hi ≤ a ∨ b ≤ lo) : Kd.R (Kd.int .u8) e w1 base (In lo hi) v xs := Kd.R_kept h hk (In_apart hd)
theorem B_tight {e base lo hi : Nat} {ok : Nat → Prop} {w w0 : World} {v : Value} {xs ys : List Int} (h0 : Kd.R (Kd.int .u8) e w0 base (In lo hi) v ys) (h : Kd.R (Kd.int .u8) e w base ok v xs) : Kd.R (Kd.int .u8) e w base (In lo hi) v xs := Kd.R_mono (Kd.R_tight rfl h) (fun k hk => h0.1 k hk.symm)
theorem blk_keptIn {g a b : Nat} {w w1 : World} {o : Obj} (h : w.heap[g]? = some o) (hk : Kept w w1 (In a b)) (hd : g < a ∨ b ≤ g) : w1.heap[g]? = some o := blk_kept h hk (fun h2 => by unfold In at h2; omega)
theorem row_store {P : Program} {ops : Array Oper} {rest : List Oper} {o : Oper} {a : Act} {w w0 : World} {B : Nat} {Q : Exit → Act → World → Prop} (hgd : o.guard = none) (ty : TypeId) (x y : Operand) (ho : o.op = .store ty x y)
    (g : Nat) (cells : Array Value) (hx : a.eval x = .pointer (some ⟨g, 0, none⟩)) (hy : a.eval y = .agg cells)
    (t : TypeId) (old : Array Value) (hg : w.heap[g]? = some (.cells old t (0, 0))) (hi : (P.info? ty).map (·.size) = some cells.size)
    (hold : old.size = cells.size) (h1 : cells.all (·.oneCell') = true) (hd : o.dst = none) (hb : Below B w0 w) (hB : B ≤ g)
    (h : ∀ w1 : World, w1.heap[g]? = some (.cells cells t (0, 0)) → Kept w w1 (In g (g + 1)) → Below B w0 w1 → wpList P ops Q rest a w1) : wpList P ops Q (o :: rest) a w := by
  refine wpList_store_row hgd ty x y ho g cells hx hy t old hg hi hold h1 ?_
  rw [hd]
  exact h _ (setRow_heap w g old cells t (0, 0) hg) ⟨by simp [World.setRow], fun k hk hn => setRow_other w g k cells (fun e => hn (by subst e; exact ⟨Nat.le_refl _, Nat.lt_succ_self _⟩))⟩ (below_setRow hb hB cells)
end Go.Proofs.Ytecndndpjekjbaa.S

/- What the laws' heldByteSS comes to on rows that are marked; what eqWordsResult comes to. For all that fit. -/
set_option linter.unusedVariables false
namespace Go.Proofs.Ytecndndpjekjbaa.S
open Go.RowKit Go.Proofs.YtecndndpjekjbaaW.PrintWords Go.Proofs.YtecndndpjekjbaaW.PrintLast Go.Proofs.YtecndndpjekjbaaW.PrintMore Go.Proofs.Ytecndndpjekjbaa.Base

theorem heldSS_l0 (ls : List (List Int)) (a : Int) (h0 : 0 ≤ a) (hl : ls.length ≤ 1000000000) (h1 : a + (ls.flatten.length : Int) ≤ 4611686018427387904) : ∀ (d i : Nat), i + d = ls.length → Ev (fun k => laws_heldByteSS.l0 k (markAll a ls) (a + (offs ls i : Int)) (i : Int)) (a + (ls.flatten.length : Int)) := by
  intro d
  induction d with
  | zero =>
    intro i h
    obtain rfl : i = ls.length := by omega
    have e1 : offs ls ls.length = ls.flatten.length := by unfold offs; rw [List.take_of_length_le (Nat.le_refl _)]
    rw [e1]
    exact ev_step (fun k => laws_heldByteSS.l0.eq_2 _ _ _ _) (ev_neg (by rw [markAll_length]; omega) (ev_now rfl))
  | succ d ih =>
    intro i h
    have hlt : i < ls.length := by omega
    have ho := offs_step ls i hlt
    have hol := offs_le ls (i + 1)
    have hg := markAll_get ls a i hlt
    have hlm : i < (markAll a ls).length := by rw [markAll_length]; exact hlt
    rw [List.getElem?_eq_getElem hlm] at hg
    refine ev_step (fun k => laws_heldByteSS.l0.eq_2 _ _ _ _) (ev_pos (by rw [markAll_length]; omega) (ev_pos (by omega) ?_))
    rw [rdLL _ i hlm, Option.some.inj hg]
    refine ev_bind (heldByteS_ev ls[i].length (a + (offs ls i : Int)) (by omega) (by omega)) (ev_neg (by omega) ?_)
    rw [w64s (by omega), show a + (offs ls i : Int) + (ls[i].length : Int) = a + (offs ls (i + 1) : Int) by omega]
    exact ih (i + 1) (by omega)
theorem heldSS_ev (ls : List (List Int)) (a : Int) (h0 : 0 ≤ a) (hl : ls.length ≤ 1000000000) (h1 : a + (ls.flatten.length : Int) ≤ 4611686018427387904) : Ev (fun k => laws_heldByteSS.f k (markAll a ls) a) (a + (ls.flatten.length : Int)) := by
  have h := heldSS_l0 ls a h0 hl h1 ls.length 0 (by omega)
  unfold laws_heldByteSS.f
  have e : offs ls 0 = 0 := by simp [offs]
  rw [e] at h
  simpa using h
theorem flat_small {ls : List (List Int)} {n m : Nat} (hl : ls.length ≤ n) (hw : ∀ w ∈ ls, w.length ≤ m) : ls.flatten.length ≤ n * m := by
  have h : ls.flatten.length ≤ ls.length * m := by
    induction ls with
    | nil => simp
    | cons x ls ih =>
      rw [List.flatten_cons, List.length_append, List.length_cons, Nat.succ_mul]
      have h1 := hw x List.mem_cons_self
      have h2 := ih (by simp only [List.length_cons] at hl; omega) (fun w hm => hw w (List.mem_cons_of_mem _ hm))
      omega
  exact Nat.le_trans h (Nat.mul_le_mul_right m hl)
end Go.Proofs.Ytecndndpjekjbaa.S

/- The laws' mark of rows of rows: it writes these rows alone, place by place. No condition beyond those in the statement. -/
set_option linter.unusedVariables false
set_option linter.unusedSimpArgs false
namespace Go.Proofs.Ytecndndpjekjbaa.S
open Go Go.RowKit Go.Proofs.YtecndndpjekjbaaW.PrintWords Go.Proofs.YtecndndpjekjbaaW.PrintLast Go.Proofs.YtecndndpjekjbaaW.PrintMore Go.Proofs.Ytecndndpjekjbaa.Base
attribute [local go_sem] max2_int min2_int max_two min_two max_three min_three max_four min_four

set_option maxHeartbeats 8000000 in
set_option maxRecDepth 100000 in
theorem markSS_calls (ls : List (List Int)) (a : Int) (h0 : 0 ≤ a) (h1 : a + (ls.flatten.length : Int) ≤ 4611686018427387904) (w0 w : World) (lo hi : Nat) (A : Option Addr) (c : Nat) (hB : Below w0.heap.size w0 w) (hA : AR w0.heap.size w lo hi A ls) (hc : ls.length ≤ c) (hl : ls.length ≤ 1000000000) :
    Calls Try.prog 24 #[.slice A ls.length c, .int .i64 a] w fun e w' => e = .returned (.int .i64 (a + (ls.flatten.length : Int))) ∧ AR w0.heap.size w' lo hi A (markAll a ls) ∧ Below w0.heap.size w0 w' ∧ Kept w w' (In lo hi) := by
  rcases hA with ⟨hlen, rfl | ⟨ad, vs, rfl, hg, hr, hin, hap⟩⟩
  · have HB := Aside0.mk hB
    have e0 : a + (([] : List (List Int)).flatten.length : Int) = a := by simp
    rw [e0]
    clear hB
    go_enter Try.func24, Try.ntmps24
    go_wp2
    go_loopg [1, 5] 0 (fun kq v1 v5 w' => v1 = .int .i64 a ∧ v5 = .int .i64 0 ∧ w' = w)
    case atStart => exact ⟨rfl, rfl, rfl⟩
    case round =>
      obtain ⟨rfl, rfl, rfl⟩ := hrel
      go_wp2
      go_ret
      exact ⟨rfl, AR.nil _ _ _ _ _, HB.out, Kept.refl _ _⟩
  · have HI := Aside0.mk hin
    have HP := Aside0.mk hap
    have HG := Aside0.mk hg
    have HN := Aside0.mk hlen
    have HL := Aside0.mk hl
    have H0 := Aside0.mk h0
    have H1 := Aside0.mk h1
    have HB := Aside0.mk hB
    have HR := Aside0.mk (show ∀ i, (h : i < (midSS a ls 0).length) → w.cell? (ad.add i) = some (vs i) ∧ Kd.R (Kd.int .u8) 5 w w0.heap.size (fun k => some k = (vs i).ownBlock) (vs i) (midSS a ls 0)[i] from hr)
    have HK := Aside0.mk (Kept.refl w (In lo hi))
    clear hin hap hg hlen hl h0 h1 hB hr hc
    go_enter Try.func24, Try.ntmps24
    go_wp2
    go_loopg [1, 5] ls.length (fun kq v1 v5 w' => ∃ i : Nat, v5 = .int .i64 (i : Int) ∧ v1 = .int .i64 (a + (offs ls i : Int)) ∧ Aside0 (i + kq = ls.length) ∧ Aside0 (∀ j, (h : j < (midSS a ls i).length) → w'.cell? (ad.add j) = some (vs j) ∧ Kd.R (Kd.int .u8) 5 w' w0.heap.size (fun k => some k = (vs j).ownBlock) (vs j) (midSS a ls i)[j]) ∧ Aside0 (Below w0.heap.size w0 w') ∧ Aside0 (Kept w w' (In lo hi)))
    case atStart => exact ⟨0, rfl, by simp [offs], ⟨by omega⟩, HR, HB, HK⟩
    case round =>
      clear HR HB HK
      obtain ⟨i, rfl, rfl, HJ, HR, HB, HK⟩ := hrel
      cases gk with
      | zero =>
        have e := HJ.out
        obtain rfl : i = ls.length := by omega
        have e1 : offs ls ls.length = ls.flatten.length := by unfold offs; rw [List.take_of_length_le (Nat.le_refl _)]
        rw [e1]
        have HA := Aside0.mk (show AR w0.heap.size wr lo hi (some ad) (markAll a ls) from ⟨by rw [markAll_length]; exact HN.out, .inr ⟨ad, vs, rfl, HG.out, fun j hj => by
          have := HR.out j (by rw [midSS_all]; exact hj)
          simp only [midSS_all] at this
          exact this, fun j k hj hk => HI.out j k (by rw [markAll_length] at hj; exact hj) hk, fun j j2 k hj hj2 hne hk => HP.out j j2 k (by rw [markAll_length] at hj; exact hj) (by rw [markAll_length] at hj2; exact hj2) hne hk⟩⟩)
        have c1_ : decide ((ls.length : Int) < (ls.length : Int)) = false := decide_eq_false (by omega)
        clear e HR
        go_wp2
        go_ret
        exact ⟨rfl, HA.out, HB.out, HK.out⟩
      | succ k1 =>
        have e := HJ.out
        have hlt : i < ls.length := by omega
        have hll := HL.out
        have c1_ : decide ((i : Int) < (ls.length : Int)) = true := decide_eq_true (by omega)
        have p0 : (0 ≤ (i : Int)) = True := eq_true (by omega)
        have p1 : ((i : Int) < (ls.length : Int)) = True := eq_true (by omega)
        have hml := midSS_length a ls i (by omega)
        obtain ⟨hx, hRi⟩ := HR.out i (by omega)
        have hgi := midSS_get a ls i hlt
        rw [List.getElem?_eq_getElem (show i < (midSS a ls i).length by omega)] at hgi
        rw [Option.some.inj hgi] at hRi
        have ho := offs_step ls i hlt
        have hst := midSS_step a ls i hlt
        obtain ⟨row, hrow⟩ : ∃ r, r = ls[i] := ⟨_, rfl⟩
        rw [← hrow] at hRi ho hst
        have hol := offs_le ls (i + 1)
        have H0' := H0.out
        have H1' := H1.out
        obtain ⟨km, hkm⟩ := (markByteS_ev row (a + (offs ls i : Int)) (by omega) (by omega)).rounds
        have HM := Aside0.mk hkm
        have HRi := Aside0.mk hRi
        have HO := Aside0.mk (show a + (offs ls i : Int) + (row.length : Int) = a + (offs ls (i + 1) : Int) by omega)
        have HS := Aside0.mk hst
        have HML := Aside0.mk hml
        have HLT := Aside0.mk hlt
        clear hkm hRi e hll hml hgi ho hol H0' H1' hst hrow hlt
        go_wp2_with (first | (go_at_call 14; refine (laws_markByteS.calls km (fun k => some k = (vs i).ownBlock) (vs i) row _ _ _ w0 _ HB.out HRi.out HM.out).mono ?_; rintro e w1 ⟨rfl, hR1, hb1, hk1⟩; have HR1 := Aside0.mk hR1; have HB1 := Aside0.mk hb1; have HK1 := Aside0.mk hk1; clear hR1 hb1 hk1))
        rw [HO.out]
        have HK2 := Aside0.mk (show Kept w w1 (In lo hi) from HK.out.then_ HK1.out (fun k hk => .inl (HI.out i k HLT.out hk.symm).1))
        have HR2 := Aside0.mk (AR.put (by rw [HML.out]; exact HN.out) HG.out HR.out (fun j k hj hk => HI.out j k (by rw [← HML.out]; exact hj) hk) (fun j j2 k hj hj2 hne hk => HP.out j j2 k (by rw [← HML.out]; exact hj) (by rw [← HML.out]; exact hj2) hne hk) (by rw [HML.out]; exact HLT.out) (Kd.R_tight rfl HR1.out) HK1.out)
        have HR3 := Aside0.mk (show ∀ j, (h : j < (midSS a ls (i + 1)).length) → w1.cell? (ad.add j) = some (vs j) ∧ Kd.R (Kd.int .u8) 5 w1 w0.heap.size (fun k => some k = (vs j).ownBlock) (vs j) (midSS a ls (i + 1))[j] from by
          have h := HR2.out
          simp only [HS.out] at h
          exact h)
        clear hx HR HR1 HR2 HB HK HK1 HRi
        go_roundg k1
        case measure => have := HJ.out; omega
        case rel => exact ⟨i + 1, by first | rfl | (rw [w64s (by have := HJ.out; have := HL.out; omega)]), rfl, ⟨by have := HJ.out; omega⟩, HR3, HB1, HK2⟩

end Go.Proofs.Ytecndndpjekjbaa.S

/- The laws' marks of proofs; the look at a ProofResult that is marked. No condition beyond those in the statements. -/
set_option linter.unusedVariables false
set_option linter.unusedSimpArgs false
namespace Go.Proofs.Ytecndndpjekjbaa.S
open Go Go.RowKit Go.Proofs.YtecndndpjekjbaaW.PrintWords Go.Proofs.YtecndndpjekjbaaW.PrintLast Go.Proofs.YtecndndpjekjbaaW.PrintMore Go.Proofs.Ytecndndpjekjbaa.Base
attribute [local go_sem] max2_int min2_int max_two min_two max_three min_three max_four min_four

theorem markSST_calls (ls : List (List Int)) (a : Int) (h0 : 0 ≤ a) (n : Nat) (hn : ls.flatten.length = n) (h1 : a + (n : Int) ≤ 4611686018427387904) (w0 w : World) (lo hi : Nat) (A : Option Addr) (c : Nat) (hB : Below w0.heap.size w0 w) (hA : AR w0.heap.size w lo hi A ls) (hc : ls.length ≤ c) (hl : ls.length ≤ 1000000000) :
    Calls Try.prog 24 #[.slice A ls.length c, .int .i64 a] w fun e w' => e = .returned (.int .i64 (a + (n : Int))) ∧ AR w0.heap.size w' lo hi A (markAll a ls) ∧ Below w0.heap.size w0 w' ∧ Kept w w' (In lo hi) := by
  subst hn
  exact markSS_calls ls a h0 h1 w0 w lo hi A c hB hA hc hl
set_option maxHeartbeats 80000000 in
set_option maxRecDepth 100000 in
theorem markProof_calls (r1 r2 : Int) (ls : List (List Int)) (a : Int) (h0 : 0 ≤ a) (tt : Nat) (ht : ls.flatten.length = tt) (h1 : a + (tt : Int) ≤ 4611686018427387904) (w0 w : World) (lo hi : Nat) (A : Option Addr) (c : Nat) (hB : Below w0.heap.size w0 w) (hA : AR w0.heap.size w lo hi A ls) (hc : ls.length ≤ c) (hl : ls.length ≤ 1000000000) :
    Calls Try.prog 56 #[.agg #[.int .i64 r1, .int .i64 r2, .slice A ls.length c], .int .i64 a] w fun e w' => e = .returned (.int .i64 (a + (tt : Int))) ∧ AR w0.heap.size w' lo hi A (markAll a ls) ∧ Below w0.heap.size w0 w' ∧ Kept w w' (In lo hi) := by
  have huiProof_ := Try.underlying41
  have HA := Aside0.mk hA
  have HB := Aside0.mk hB
  have HC := Aside0.mk hc
  have HL := Aside0.mk hl
  have H0 := Aside0.mk h0
  have H1 := Aside0.mk h1
  have HT := Aside0.mk ht
  clear hA hB hc hl h0 h1 ht
  go_enter Try.func56, Try.ntmps56
  go_wp2_with (first | ((with_reducible refine gate_dst (N := 2) rfl ?_); refine hold_here ?_))
  refine hold_go ?_
  refine box_event (N := 2) (cs := #[.int .i64 r1, .int .i64 r2, .slice A ls.length c]) (t := 41) ?hgb rfl ?hrb ?_
  case hgb => rfl
  case hrb => first | (go_simp; done) | (go_simp; rfl)
  intro g hg w1 hbox hb
  have HA1 := Aside0.mk (HA.out.below hb)
  have HB1 := Aside0.mk (below_then HB.out HB.out.size hb)
  have HK1 := Aside0.mk (Kept.of_below hb (In lo hi))
  have hz0 : w1.cell? ⟨g, 0, none⟩ = some (.int .i64 r1) := (blk_cell hbox 0).trans rfl
  have hf0 := blk_frozen hbox 0
  have hz1 : w1.cell? ⟨g, 1, none⟩ = some (.int .i64 r2) := (blk_cell hbox 1).trans rfl
  have hf1 := blk_frozen hbox 1
  have hz2 : w1.cell? ⟨g, 2, none⟩ = some (.slice A ls.length c) := (blk_cell hbox 2).trans rfl
  have hf2 := blk_frozen hbox 2
  clear HA HB hb hbox hg
  go_wp2_with (first | (go_at_call 24; refine hold_here ?_))
  refine hold_go ?_
  refine (markSST_calls ls a H0.out tt HT.out H1.out w0 _ lo hi A c HB1.out HA1.out HC.out HL.out).mono ?_
  rintro e w2 ⟨rfl, ha, hb2, hk⟩
  have HA2 := Aside0.mk ha
  have HB2 := Aside0.mk hb2
  have HK2 := Aside0.mk (HK1.out.then_ hk (fun k h => .inl h))
  clear ha hb2 hk HA1 HB1 HK1 hz0 hf0 hz1 hf1 hz2 hf2
  go_wp2
  go_ret
  exact ⟨rfl, HA2.out, HB2.out, HK2.out⟩
set_option maxHeartbeats 80000000 in
set_option maxRecDepth 100000 in
theorem markProofResult_calls (r0 r1 r2 : Int) (ls : List (List Int)) (a : Int) (h0 : 0 ≤ a) (tt : Nat) (ht : ls.flatten.length = tt) (h1 : a + (tt : Int) ≤ 4611686018427387904) (w0 w : World) (lo hi : Nat) (A : Option Addr) (c : Nat) (hB : Below w0.heap.size w0 w) (hA : AR w0.heap.size w lo hi A ls) (hc : ls.length ≤ c) (hl : ls.length ≤ 1000000000) :
    Calls Try.prog 28 #[.agg #[.int .i64 r0, .int .i64 r1, .int .i64 r2, .slice A ls.length c], .int .i64 a] w fun e w' => e = .returned (.int .i64 (a + (tt : Int))) ∧ AR w0.heap.size w' lo hi A (markAll a ls) ∧ Below w0.heap.size w0 w' ∧ Kept w w' (In lo hi) := by
  have huiProofResult_ := Try.underlying43
  have huiProof_ := Try.underlying41
  have HA := Aside0.mk hA
  have HB := Aside0.mk hB
  have HC := Aside0.mk hc
  have HL := Aside0.mk hl
  have H0 := Aside0.mk h0
  have H1 := Aside0.mk h1
  have HT := Aside0.mk ht
  clear hA hB hc hl h0 h1 ht
  go_enter Try.func28, Try.ntmps28
  go_wp2_with (first | ((with_reducible refine gate_dst (N := 2) rfl ?_); refine hold_here ?_))
  refine hold_go ?_
  refine box_event (N := 2) (cs := #[.int .i64 r0, .int .i64 r1, .int .i64 r2, .slice A ls.length c]) (t := 43) ?hgb rfl ?hrb ?_
  case hgb => rfl
  case hrb => first | (go_simp; done) | (go_simp; rfl)
  intro g hg w1 hbox hb
  have HA1 := Aside0.mk (HA.out.below hb)
  have HB1 := Aside0.mk (below_then HB.out HB.out.size hb)
  have HK1 := Aside0.mk (Kept.of_below hb (In lo hi))
  have hz0 : w1.cell? ⟨g, 0, none⟩ = some (.int .i64 r0) := (blk_cell hbox 0).trans rfl
  have hf0 := blk_frozen hbox 0
  have hz1 : w1.cell? ⟨g, 1, none⟩ = some (.int .i64 r1) := (blk_cell hbox 1).trans rfl
  have hf1 := blk_frozen hbox 1
  have hz2 : w1.cell? ⟨g, 2, none⟩ = some (.int .i64 r2) := (blk_cell hbox 2).trans rfl
  have hf2 := blk_frozen hbox 2
  have hz3 : w1.cell? ⟨g, 3, none⟩ = some (.slice A ls.length c) := (blk_cell hbox 3).trans rfl
  have hf3 := blk_frozen hbox 3
  clear HA HB hb hbox hg
  go_wp2_with (first | ((with_reducible refine gate_callee (f := 56) rfl ?_); refine hold_here ?_))
  refine hold_go ?_
  refine goesL_ (some 8) rfl rfl Try.func56 (by kernel_rfl) rfl #[.agg #[.int .i64 r1, .int .i64 r2, .slice A ls.length c], .int .i64 a] rfl (by (try simp only [List.map_toArray, List.map_cons, List.map_nil]); first | done | rfl) ?_
  refine (markProof_calls r1 r2 ls a H0.out tt HT.out H1.out w0 _ lo hi A c HB1.out HA1.out HC.out HL.out).mono ?_
  rintro e w2 ⟨rfl, ha, hb2, hk⟩
  refine ⟨_, rfl, ?_⟩
  have HA2 := Aside0.mk ha
  have HB2 := Aside0.mk hb2
  have HK2 := Aside0.mk (HK1.out.then_ hk (fun k h => .inl h))
  clear ha hb2 hk HA1 HB1 HK1 hz0 hf0 hz1 hf1 hz2 hf2 hz3 hf3
  go_wp2
  go_ret
  exact ⟨rfl, HA2.out, HB2.out, HK2.out⟩
theorem heldProofResult_len (k : Nat) (r0 r1 r2 : Int) (A : Option Addr) (c : Nat) (ms : List (List Int)) (n : Nat) (hn : ms.length = n) (a r : Int) (w : World) (hr : Kd.C (Kd.slice 5 (Kd.int .u8)) w A ms.length ms) (hc : n ≤ c) (h : laws_heldProofResult.f k r0 r1 r2 ms a = some r) :
    Calls Try.prog 29 #[.agg #[.int .i64 r0, .int .i64 r1, .int .i64 r2, .slice A n c], .int .i64 a] w fun e w' => e = .returned (.int .i64 r) ∧ Below w.heap.size w w' := by
  subst hn
  exact laws_heldProofResult.calls k r0 r1 r2 A c ms a r w hr hc h

end Go.Proofs.Ytecndndpjekjbaa.S

/- The walk over the law FnExactProveLeaf: the program and the reference are called, compared, and what they hold is marked. No condition beyond those in the statements. -/
set_option linter.unusedVariables false
set_option linter.unusedSimpArgs false
namespace Go.Proofs.Ytecndndpjekjbaa.S
open Go Go.RowKit Go.Proofs.YtecndndpjekjbaaW.PrintWords Go.Proofs.YtecndndpjekjbaaW.PrintLast Go.Proofs.YtecndndpjekjbaaW.PrintMore Go.Proofs.Ytecndndpjekjbaa.Base
attribute [local go_sem] max2_int min2_int max_two min_two max_three min_three max_four min_four

set_option maxHeartbeats 80000000 in
set_option maxRecDepth 100000 in
theorem law_ProveLeaf (A0 : Option Addr) (c0 : Nat) (l0 : List (List Int)) (a1 : Int) (q0 : Int) (q1 : Int) (q2 : Int) (rs3 : List (List Int))  (n0 : Nat) (mr : List (List Int)) (nr : Nat) (sz : Int) (w : World) (hr0 : Kd.C (Kd.slice 5 (Kd.int .u8)) w A0 l0.length l0) (hc0 : l0.length ≤ c0)
    (ke0 keqr khr kimpl kspec ksz kt0 : Nat) (h_sz : laws_szByteSS.f ksz l0 1048576 = some sz) (h_szc : ¬ sz < 0) (h_t0 : laws_toByteSS.f kt0 l0 = some l0) (h_e0 : laws_eqByteSS.f ke0 l0 l0 = some true) (h_spec : spec_ProveLeaf.f kspec l0 a1 = some (q0, q1, q2, rs3)) (h_impl : impl_ProveLeaf.f kimpl l0 a1 = some (q0, q1, q2, rs3)) (h_eqr : laws_eqProofResult.f keqr q0 q1 q2 rs3 q0 q1 q2 rs3 = some true) (h_n0 : l0.flatten.length = n0) (h_o0 : (0 : Int) ≤ 1) (h_p0 : 1 + (n0 : Int) ≤ 4611686018427387904) (h_u0 : l0.length ≤ 1000000000) (h_nr : rs3.flatten.length = nr) (h_pr : (1 : Int) + (nr : Int) ≤ 4611686018427387904) (h_ur : rs3.length ≤ 1000000000) (h_qr : markAll 1 rs3 = mr) (h_lr : mr.length = rs3.length) (h_hr : laws_heldProofResult.f khr q0 q1 q2 mr 1 = some (1 + (nr : Int))) :
    Calls Try.prog 6 #[.slice A0 l0.length c0, .int .i64 a1] w fun e w' => e = .returned (.bool true) ∧ Below w.heap.size w w' := by
  have HR0 := Aside0.mk hr0
  have HC0 := Aside0.mk hc0
  have H_sz := Aside0.mk h_sz
  have H_szc := Aside0.mk h_szc
  have H_t0 := Aside0.mk h_t0
  have H_e0 := Aside0.mk h_e0
  have H_spec := Aside0.mk h_spec
  have H_impl := Aside0.mk h_impl
  have H_eqr := Aside0.mk h_eqr
  have H_n0 := Aside0.mk h_n0
  have H_o0 := Aside0.mk h_o0
  have H_p0 := Aside0.mk h_p0
  have H_u0 := Aside0.mk h_u0
  have H_nr := Aside0.mk h_nr
  have H_pr := Aside0.mk h_pr
  have H_ur := Aside0.mk h_ur
  have H_qr := Aside0.mk h_qr
  have H_lr := Aside0.mk h_lr
  have H_hr := Aside0.mk h_hr
  have HB := Aside0.mk (Below.refl w.heap.size w)
  have csz_ : decide (sz < 0) = false := decide_eq_false H_szc.out
  have cz_ : decide ((1 + (nr : Int)) < 0) = false := decide_eq_false (by omega)
  have cy_ : decide ((1 + (n0 : Int)) < 0) = false := decide_eq_false (by omega)
  clear hr0 hc0 h_sz h_szc h_t0 h_e0 h_spec h_impl h_eqr h_n0 h_o0 h_p0 h_u0 h_nr h_pr h_ur h_qr h_lr h_hr
  go_enter Try.func6, Try.ntmps6
  go_wp2_with (first | (go_at_call 19; refine hold_here ?_))
  refine hold_go ?_
  refine (laws_szByteSS.calls _ A0 c0 l0 1048576 sz _ ?s1 ?s2 H_sz.out).mono ?_
  case s1 => exact Kd.C_below HR0.out (by repeat (first | (with_reducible first | exact HB.out | apply below_alloc | apply pw_below_drewN | apply below_drew1) | exact HB.out))
  case s2 => exact HC0.out
  rintro e w1_ ⟨rfl, hd⟩
  have hb := hd.below
  clear hd
  have m_HB := Aside0.mk (below_step (by repeat (first | (with_reducible first | exact HB.out | apply below_alloc | apply pw_below_drewN | apply below_drew1) | exact HB.out)) hb)
  clear HB 
  have HB := m_HB
  clear m_HB 
  have Z1 := Aside0.mk (show w.heap.size ≤ w1_.heap.size from hb.size)
  clear hb
  go_wp2_with (first | (go_at_call 21; refine hold_here ?_))
  refine hold_go ?_
  refine (laws_toByteSS.calls _ A0 c0 l0 l0 _ ?s1 ?s2 H_t0.out).mono ?_
  case s1 => exact Kd.C_below HR0.out (by repeat (first | (with_reducible first | exact HB.out | apply below_alloc | apply pw_below_drewN | apply below_drew1) | exact HB.out))
  case s2 => exact HC0.out
  rintro e w2_ ⟨v, rfl, ho, hb⟩
  have m_HB := Aside0.mk (below_step (by repeat (first | (with_reducible first | exact HB.out | apply below_alloc | apply pw_below_drewN | apply below_drew1) | exact HB.out)) hb)
  clear HB 
  have HB := m_HB
  clear m_HB 
  have Z2 := Aside0.mk (show w1_.heap.size ≤ w2_.heap.size from hb.size)
  obtain ⟨A_T0, c_T0, ev_, hc_T0, hA_T0⟩ := AR_of_S (base := w.heap.size) ho (show w.heap.size ≤ w1_.heap.size from (by have := Z1.out; have := Z2.out; omega))
  subst ev_
  have HC_T0 := Aside0.mk hc_T0
  have T0 := Aside0.mk (show AR w.heap.size w2_ w1_.heap.size w2_.heap.size A_T0 l0 from hA_T0)
  clear hc_T0 hA_T0 ho
  clear hb
  go_wp2_with (first | (go_at_call 25; refine hold_here ?_))
  refine hold_go ?_
  refine (spec_ProveLeaf.calls _ A_T0 c_T0 l0 a1 q0 q1 q2 rs3 _ ?s1 ?s2 H_spec.out).mono ?_
  case s1 => exact Kd.F_now (AR.foot (by (with_reducible repeat (first | refine AR.alloc ?_ _ | refine AR.drewN ?_ _ | refine AR.drew ?_)); exact T0.out))
  case s2 => exact HC_T0.out
  rintro e w3_ ⟨v3, rfl, ho3, hb⟩
  have m_T0 := Aside0.mk (AR.below (by (with_reducible repeat (first | refine AR.alloc ?_ _ | refine AR.drewN ?_ _ | refine AR.drew ?_)); exact T0.out) hb)
  have m_HB := Aside0.mk (below_step (by repeat (first | (with_reducible first | exact HB.out | apply below_alloc | apply pw_below_drewN | apply below_drew1) | exact HB.out)) hb)
  clear HB T0
  have HB := m_HB
  have T0 := m_T0
  clear m_HB m_T0
  have Z3 := Aside0.mk (show w2_.heap.size ≤ w3_.heap.size from hb.size)
  obtain ⟨A_W3, c_W3, ev_, hc_W3, hA_W3⟩ := AR_of_S (base := w.heap.size) ho3 (show w.heap.size ≤ w2_.heap.size from (by have := Z1.out; have := Z2.out; have := Z3.out; omega))
  subst ev_
  have HC_W3 := Aside0.mk hc_W3
  have W3 := Aside0.mk (show AR w.heap.size w3_ w2_.heap.size w3_.heap.size A_W3 rs3 from hA_W3)
  clear hc_W3 hA_W3 ho3
  clear hb
  go_wp2_with (first | ((with_reducible refine gate_dst (N := 6) rfl ?_); refine hold_here ?_))
  refine hold_go ?_
  refine box_event (N := 6) (cs := #[.int .i64 0, .int .i64 0, .int .i64 0, .slice none 0 0]) (t := 43) ?hgb rfl ?hrb ?_
  case hgb => rfl
  case hrb => first | (go_simp; done) | (go_simp; rfl)
  intro g6_ hg w4_ hbox hb
  have m_T0 := Aside0.mk (AR.below (by (with_reducible repeat (first | refine AR.alloc ?_ _ | refine AR.drewN ?_ _ | refine AR.drew ?_)); exact T0.out) hb)
  have m_W3 := Aside0.mk (AR.below (by (with_reducible repeat (first | refine AR.alloc ?_ _ | refine AR.drewN ?_ _ | refine AR.drew ?_)); exact W3.out) hb)
  have m_HB := Aside0.mk (below_step (by repeat (first | (with_reducible first | exact HB.out | apply below_alloc | apply pw_below_drewN | apply below_drew1) | exact HB.out)) hb)
  clear HB T0 W3
  have HB := m_HB
  have T0 := m_T0
  have W3 := m_W3
  clear m_HB m_T0 m_W3
  have Z4 := Aside0.mk (show w3_.heap.size ≤ w4_.heap.size from hb.size)
  have BK6 := Aside0.mk hbox
  have GE6 := Aside0.mk (show g6_ = w3_.heap.size from hg)
  have GL6 := Aside0.mk (show g6_ < w4_.heap.size from blk_lt hbox)
  clear hb hbox hg
  go_wp2_with (first | ((with_reducible refine gate_store (t := 43) (p := 6) (v := .tmp 21) rfl ?_); refine hold_here ?_))
  refine hold_go ?_
  refine row_store rfl 43 (.tmp 6) (.tmp 21) rfl g6_ #[.int .i64 q0, .int .i64 q1, .int .i64 q2, .slice A_W3 rs3.length c_W3] rfl rfl 43 _ (by (with_reducible repeat (first | refine blk_drewN ?_ _ | refine blk_drew ?_ | refine blk_alloc ?_ _)); exact BK6.out) ?hi ?ho ?h1 rfl (by repeat (first | (with_reducible first | exact HB.out | apply below_alloc | apply pw_below_drewN | apply below_drew1) | exact HB.out)) (show w.heap.size ≤ g6_ from (by have := Z1.out; have := Z2.out; have := Z3.out; have := Z4.out; have := GE6.out; have := GL6.out; omega)) ?_
  case hi => kernel_rfl
  case ho => rfl
  case h1 => first | rfl | (simp [Value.oneCell']; done) | (go_simp; done)
  intro w5_ bo hk hb2
  clear BK6
  have m_T0 := Aside0.mk (AR.kept (by (with_reducible repeat (first | refine AR.alloc ?_ _ | refine AR.drewN ?_ _ | refine AR.drew ?_)); exact T0.out) hk (by have := Z1.out; have := Z2.out; have := Z3.out; have := Z4.out; have := GE6.out; have := GL6.out; omega))
  have m_W3 := Aside0.mk (AR.kept (by (with_reducible repeat (first | refine AR.alloc ?_ _ | refine AR.drewN ?_ _ | refine AR.drew ?_)); exact W3.out) hk (by have := Z1.out; have := Z2.out; have := Z3.out; have := Z4.out; have := GE6.out; have := GL6.out; omega))
  have m_HB := Aside0.mk hb2
  clear HB T0 W3
  have HB := m_HB
  have T0 := m_T0
  have W3 := m_W3
  clear m_HB m_T0 m_W3
  have Z5 := Aside0.mk (show w4_.heap.size ≤ w5_.heap.size from hk.1)
  have BK6 := Aside0.mk bo
  clear bo hk hb2
  have hz_BK6_0 : w5_.cell? ⟨g6_, 0, none⟩ = some (.int .i64 q0) := (blk_cell BK6.out 0).trans rfl
  have hz_BK6_1 : w5_.cell? ⟨g6_, 1, none⟩ = some (.int .i64 q1) := (blk_cell BK6.out 1).trans rfl
  have hz_BK6_2 : w5_.cell? ⟨g6_, 2, none⟩ = some (.int .i64 q2) := (blk_cell BK6.out 2).trans rfl
  have hz_BK6_3 : w5_.cell? ⟨g6_, 3, none⟩ = some (.slice A_W3 rs3.length c_W3) := (blk_cell BK6.out 3).trans rfl
  clear T0
  go_wp2_with (first | (go_at_call 21; refine hold_here ?_))
  refine hold_go ?_
  refine (laws_toByteSS.calls _ A0 c0 l0 l0 _ ?s1 ?s2 H_t0.out).mono ?_
  case s1 => exact Kd.C_below HR0.out (by repeat (first | (with_reducible first | exact HB.out | apply below_alloc | apply pw_below_drewN | apply below_drew1) | exact HB.out))
  case s2 => exact HC0.out
  rintro e w6_ ⟨v, rfl, ho, hb⟩
  have m_W3 := Aside0.mk (AR.below (by (with_reducible repeat (first | refine AR.alloc ?_ _ | refine AR.drewN ?_ _ | refine AR.drew ?_)); exact W3.out) hb)
  have m_BK6 := Aside0.mk (blk_below (by (with_reducible repeat (first | refine blk_drewN ?_ _ | refine blk_drew ?_ | refine blk_alloc ?_ _)); exact BK6.out) hb)
  have m_HB := Aside0.mk (below_step (by repeat (first | (with_reducible first | exact HB.out | apply below_alloc | apply pw_below_drewN | apply below_drew1) | exact HB.out)) hb)
  clear hz_BK6_0 hz_BK6_1 hz_BK6_2 hz_BK6_3
  clear HB W3 BK6
  have HB := m_HB
  have W3 := m_W3
  have BK6 := m_BK6
  clear m_HB m_W3 m_BK6
  have Z6 := Aside0.mk (show w5_.heap.size ≤ w6_.heap.size from hb.size)
  obtain ⟨A_X0_, c_X0_, ev_, hc_X0_, hA_X0_⟩ := AR_of_S (base := w.heap.size) ho (show w.heap.size ≤ w5_.heap.size from (by have := Z1.out; have := Z2.out; have := Z3.out; have := Z4.out; have := Z5.out; have := Z6.out; have := GE6.out; have := GL6.out; omega))
  subst ev_
  have HC_X0_ := Aside0.mk hc_X0_
  have X0_ := Aside0.mk (show AR w.heap.size w6_ w5_.heap.size w6_.heap.size A_X0_ l0 from hA_X0_)
  clear hc_X0_ hA_X0_ ho
  clear hb
  have hz_BK6_0 : w6_.cell? ⟨g6_, 0, none⟩ = some (.int .i64 q0) := (blk_cell BK6.out 0).trans rfl
  have hz_BK6_1 : w6_.cell? ⟨g6_, 1, none⟩ = some (.int .i64 q1) := (blk_cell BK6.out 1).trans rfl
  have hz_BK6_2 : w6_.cell? ⟨g6_, 2, none⟩ = some (.int .i64 q2) := (blk_cell BK6.out 2).trans rfl
  have hz_BK6_3 : w6_.cell? ⟨g6_, 3, none⟩ = some (.slice A_W3 rs3.length c_W3) := (blk_cell BK6.out 3).trans rfl
  go_wp2_with (first | (go_at_call 26; refine hold_here ?_))
  refine hold_go ?_
  refine (impl_ProveLeaf.calls _ A_X0_ c_X0_ l0 a1 q0 q1 q2 rs3 _ ?s1 ?s2 H_impl.out).mono ?_
  case s1 => exact Kd.F_now (AR.foot (by (with_reducible repeat (first | refine AR.alloc ?_ _ | refine AR.drewN ?_ _ | refine AR.drew ?_)); exact X0_.out))
  case s2 => exact HC_X0_.out
  rintro e w7_ ⟨v3, rfl, ho3, hb⟩
  have m_W3 := Aside0.mk (AR.below (by (with_reducible repeat (first | refine AR.alloc ?_ _ | refine AR.drewN ?_ _ | refine AR.drew ?_)); exact W3.out) hb)
  have m_BK6 := Aside0.mk (blk_below (by (with_reducible repeat (first | refine blk_drewN ?_ _ | refine blk_drew ?_ | refine blk_alloc ?_ _)); exact BK6.out) hb)
  have m_X0_ := Aside0.mk (AR.below (by (with_reducible repeat (first | refine AR.alloc ?_ _ | refine AR.drewN ?_ _ | refine AR.drew ?_)); exact X0_.out) hb)
  have m_HB := Aside0.mk (below_step (by repeat (first | (with_reducible first | exact HB.out | apply below_alloc | apply pw_below_drewN | apply below_drew1) | exact HB.out)) hb)
  clear hz_BK6_0 hz_BK6_1 hz_BK6_2 hz_BK6_3
  clear HB W3 BK6 X0_
  have HB := m_HB
  have W3 := m_W3
  have BK6 := m_BK6
  have X0_ := m_X0_
  clear m_HB m_W3 m_BK6 m_X0_
  have Z7 := Aside0.mk (show w6_.heap.size ≤ w7_.heap.size from hb.size)
  obtain ⟨A_G3, c_G3, ev_, hc_G3, hA_G3⟩ := AR_of_S (base := w.heap.size) ho3 (show w.heap.size ≤ w6_.heap.size from (by have := Z1.out; have := Z2.out; have := Z3.out; have := Z4.out; have := Z5.out; have := Z6.out; have := Z7.out; have := GE6.out; have := GL6.out; omega))
  subst ev_
  have HC_G3 := Aside0.mk hc_G3
  have G3 := Aside0.mk (show AR w.heap.size w7_ w6_.heap.size w7_.heap.size A_G3 rs3 from hA_G3)
  clear hc_G3 hA_G3 ho3
  clear hb
  have hz_BK6_0 : w7_.cell? ⟨g6_, 0, none⟩ = some (.int .i64 q0) := (blk_cell BK6.out 0).trans rfl
  have hz_BK6_1 : w7_.cell? ⟨g6_, 1, none⟩ = some (.int .i64 q1) := (blk_cell BK6.out 1).trans rfl
  have hz_BK6_2 : w7_.cell? ⟨g6_, 2, none⟩ = some (.int .i64 q2) := (blk_cell BK6.out 2).trans rfl
  have hz_BK6_3 : w7_.cell? ⟨g6_, 3, none⟩ = some (.slice A_W3 rs3.length c_W3) := (blk_cell BK6.out 3).trans rfl
  go_wp2_with (first | ((with_reducible refine gate_dst (N := 8) rfl ?_); refine hold_here ?_))
  refine hold_go ?_
  refine box_event (N := 8) (cs := #[.int .i64 0, .int .i64 0, .int .i64 0, .slice none 0 0]) (t := 43) ?hgb rfl ?hrb ?_
  case hgb => rfl
  case hrb => first | (go_simp; done) | (go_simp; rfl)
  intro g8_ hg w8_ hbox hb
  have m_W3 := Aside0.mk (AR.below (by (with_reducible repeat (first | refine AR.alloc ?_ _ | refine AR.drewN ?_ _ | refine AR.drew ?_)); exact W3.out) hb)
  have m_BK6 := Aside0.mk (blk_below (by (with_reducible repeat (first | refine blk_drewN ?_ _ | refine blk_drew ?_ | refine blk_alloc ?_ _)); exact BK6.out) hb)
  have m_X0_ := Aside0.mk (AR.below (by (with_reducible repeat (first | refine AR.alloc ?_ _ | refine AR.drewN ?_ _ | refine AR.drew ?_)); exact X0_.out) hb)
  have m_G3 := Aside0.mk (AR.below (by (with_reducible repeat (first | refine AR.alloc ?_ _ | refine AR.drewN ?_ _ | refine AR.drew ?_)); exact G3.out) hb)
  have m_HB := Aside0.mk (below_step (by repeat (first | (with_reducible first | exact HB.out | apply below_alloc | apply pw_below_drewN | apply below_drew1) | exact HB.out)) hb)
  clear hz_BK6_0 hz_BK6_1 hz_BK6_2 hz_BK6_3
  clear HB W3 BK6 X0_ G3
  have HB := m_HB
  have W3 := m_W3
  have BK6 := m_BK6
  have X0_ := m_X0_
  have G3 := m_G3
  clear m_HB m_W3 m_BK6 m_X0_ m_G3
  have Z8 := Aside0.mk (show w7_.heap.size ≤ w8_.heap.size from hb.size)
  have BK8 := Aside0.mk hbox
  have GE8 := Aside0.mk (show g8_ = w7_.heap.size from hg)
  have GL8 := Aside0.mk (show g8_ < w8_.heap.size from blk_lt hbox)
  clear hb hbox hg
  go_wp2_with (first | ((with_reducible refine gate_store (t := 43) (p := 8) (v := .tmp 26) rfl ?_); refine hold_here ?_))
  refine hold_go ?_
  refine row_store rfl 43 (.tmp 8) (.tmp 26) rfl g8_ #[.int .i64 q0, .int .i64 q1, .int .i64 q2, .slice A_G3 rs3.length c_G3] rfl rfl 43 _ (by (with_reducible repeat (first | refine blk_drewN ?_ _ | refine blk_drew ?_ | refine blk_alloc ?_ _)); exact BK8.out) ?hi ?ho ?h1 rfl (by repeat (first | (with_reducible first | exact HB.out | apply below_alloc | apply pw_below_drewN | apply below_drew1) | exact HB.out)) (show w.heap.size ≤ g8_ from (by have := Z1.out; have := Z2.out; have := Z3.out; have := Z4.out; have := Z5.out; have := Z6.out; have := Z7.out; have := Z8.out; have := GE6.out; have := GL6.out; have := GE8.out; have := GL8.out; omega)) ?_
  case hi => kernel_rfl
  case ho => rfl
  case h1 => first | rfl | (simp [Value.oneCell']; done) | (go_simp; done)
  intro w9_ bo hk hb2
  clear BK8
  have m_W3 := Aside0.mk (AR.kept (by (with_reducible repeat (first | refine AR.alloc ?_ _ | refine AR.drewN ?_ _ | refine AR.drew ?_)); exact W3.out) hk (by have := Z1.out; have := Z2.out; have := Z3.out; have := Z4.out; have := Z5.out; have := Z6.out; have := Z7.out; have := Z8.out; have := GE6.out; have := GL6.out; have := GE8.out; have := GL8.out; omega))
  have m_BK6 := Aside0.mk (blk_keptIn (by (with_reducible repeat (first | refine blk_drewN ?_ _ | refine blk_drew ?_ | refine blk_alloc ?_ _)); exact BK6.out) hk (by have := Z1.out; have := Z2.out; have := Z3.out; have := Z4.out; have := Z5.out; have := Z6.out; have := Z7.out; have := Z8.out; have := GE6.out; have := GL6.out; have := GE8.out; have := GL8.out; omega))
  have m_X0_ := Aside0.mk (AR.kept (by (with_reducible repeat (first | refine AR.alloc ?_ _ | refine AR.drewN ?_ _ | refine AR.drew ?_)); exact X0_.out) hk (by have := Z1.out; have := Z2.out; have := Z3.out; have := Z4.out; have := Z5.out; have := Z6.out; have := Z7.out; have := Z8.out; have := GE6.out; have := GL6.out; have := GE8.out; have := GL8.out; omega))
  have m_G3 := Aside0.mk (AR.kept (by (with_reducible repeat (first | refine AR.alloc ?_ _ | refine AR.drewN ?_ _ | refine AR.drew ?_)); exact G3.out) hk (by have := Z1.out; have := Z2.out; have := Z3.out; have := Z4.out; have := Z5.out; have := Z6.out; have := Z7.out; have := Z8.out; have := GE6.out; have := GL6.out; have := GE8.out; have := GL8.out; omega))
  have m_HB := Aside0.mk hb2
  clear HB W3 BK6 X0_ G3
  have HB := m_HB
  have W3 := m_W3
  have BK6 := m_BK6
  have X0_ := m_X0_
  have G3 := m_G3
  clear m_HB m_W3 m_BK6 m_X0_ m_G3
  have Z9 := Aside0.mk (show w8_.heap.size ≤ w9_.heap.size from hk.1)
  have BK8 := Aside0.mk bo
  clear bo hk hb2
  have hz_BK6_0 : w9_.cell? ⟨g6_, 0, none⟩ = some (.int .i64 q0) := (blk_cell BK6.out 0).trans rfl
  have hz_BK6_1 : w9_.cell? ⟨g6_, 1, none⟩ = some (.int .i64 q1) := (blk_cell BK6.out 1).trans rfl
  have hz_BK6_2 : w9_.cell? ⟨g6_, 2, none⟩ = some (.int .i64 q2) := (blk_cell BK6.out 2).trans rfl
  have hz_BK6_3 : w9_.cell? ⟨g6_, 3, none⟩ = some (.slice A_W3 rs3.length c_W3) := (blk_cell BK6.out 3).trans rfl
  have hz_BK8_0 : w9_.cell? ⟨g8_, 0, none⟩ = some (.int .i64 q0) := (blk_cell BK8.out 0).trans rfl
  have hz_BK8_1 : w9_.cell? ⟨g8_, 1, none⟩ = some (.int .i64 q1) := (blk_cell BK8.out 1).trans rfl
  have hz_BK8_2 : w9_.cell? ⟨g8_, 2, none⟩ = some (.int .i64 q2) := (blk_cell BK8.out 2).trans rfl
  have hz_BK8_3 : w9_.cell? ⟨g8_, 3, none⟩ = some (.slice A_G3 rs3.length c_G3) := (blk_cell BK8.out 3).trans rfl
  go_wp2_with (first | (go_at_call 27; refine hold_here ?_))
  refine hold_go ?_
  refine (laws_eqProofResult.calls _ q0 q1 q2 A_G3 c_G3 rs3 q0 q1 q2 A_W3 c_W3 rs3 true _ ?s1 ?s2 ?s3 ?s4 H_eqr.out).mono ?_
  case s1 => exact Kd.F_now (AR.foot (by (with_reducible repeat (first | refine AR.alloc ?_ _ | refine AR.drewN ?_ _ | refine AR.drew ?_)); exact G3.out))
  case s2 => exact HC_G3.out
  case s3 => exact Kd.F_now (AR.foot (by (with_reducible repeat (first | refine AR.alloc ?_ _ | refine AR.drewN ?_ _ | refine AR.drew ?_)); exact W3.out))
  case s4 => exact HC_W3.out
  rintro e w10_ ⟨rfl, hb⟩
  have m_W3 := Aside0.mk (AR.below (by (with_reducible repeat (first | refine AR.alloc ?_ _ | refine AR.drewN ?_ _ | refine AR.drew ?_)); exact W3.out) hb)
  have m_BK6 := Aside0.mk (blk_below (by (with_reducible repeat (first | refine blk_drewN ?_ _ | refine blk_drew ?_ | refine blk_alloc ?_ _)); exact BK6.out) hb)
  have m_X0_ := Aside0.mk (AR.below (by (with_reducible repeat (first | refine AR.alloc ?_ _ | refine AR.drewN ?_ _ | refine AR.drew ?_)); exact X0_.out) hb)
  have m_G3 := Aside0.mk (AR.below (by (with_reducible repeat (first | refine AR.alloc ?_ _ | refine AR.drewN ?_ _ | refine AR.drew ?_)); exact G3.out) hb)
  have m_BK8 := Aside0.mk (blk_below (by (with_reducible repeat (first | refine blk_drewN ?_ _ | refine blk_drew ?_ | refine blk_alloc ?_ _)); exact BK8.out) hb)
  have m_HB := Aside0.mk (below_step (by repeat (first | (with_reducible first | exact HB.out | apply below_alloc | apply pw_below_drewN | apply below_drew1) | exact HB.out)) hb)
  clear hz_BK6_0 hz_BK6_1 hz_BK6_2 hz_BK6_3 hz_BK8_0 hz_BK8_1 hz_BK8_2 hz_BK8_3
  clear HB W3 BK6 X0_ G3 BK8
  have HB := m_HB
  have W3 := m_W3
  have BK6 := m_BK6
  have X0_ := m_X0_
  have G3 := m_G3
  have BK8 := m_BK8
  clear m_HB m_W3 m_BK6 m_X0_ m_G3 m_BK8
  have Z10 := Aside0.mk (show w9_.heap.size ≤ w10_.heap.size from hb.size)
  clear hb
  have hz_BK6_0 : w10_.cell? ⟨g6_, 0, none⟩ = some (.int .i64 q0) := (blk_cell BK6.out 0).trans rfl
  have hz_BK6_1 : w10_.cell? ⟨g6_, 1, none⟩ = some (.int .i64 q1) := (blk_cell BK6.out 1).trans rfl
  have hz_BK6_2 : w10_.cell? ⟨g6_, 2, none⟩ = some (.int .i64 q2) := (blk_cell BK6.out 2).trans rfl
  have hz_BK6_3 : w10_.cell? ⟨g6_, 3, none⟩ = some (.slice A_W3 rs3.length c_W3) := (blk_cell BK6.out 3).trans rfl
  have hz_BK8_0 : w10_.cell? ⟨g8_, 0, none⟩ = some (.int .i64 q0) := (blk_cell BK8.out 0).trans rfl
  have hz_BK8_1 : w10_.cell? ⟨g8_, 1, none⟩ = some (.int .i64 q1) := (blk_cell BK8.out 1).trans rfl
  have hz_BK8_2 : w10_.cell? ⟨g8_, 2, none⟩ = some (.int .i64 q2) := (blk_cell BK8.out 2).trans rfl
  have hz_BK8_3 : w10_.cell? ⟨g8_, 3, none⟩ = some (.slice A_G3 rs3.length c_G3) := (blk_cell BK8.out 3).trans rfl
  go_wp2_with (first | (go_at_call 21; refine hold_here ?_))
  refine hold_go ?_
  refine (laws_toByteSS.calls _ A0 c0 l0 l0 _ ?s1 ?s2 H_t0.out).mono ?_
  case s1 => exact Kd.C_below HR0.out (by repeat (first | (with_reducible first | exact HB.out | apply below_alloc | apply pw_below_drewN | apply below_drew1) | exact HB.out))
  case s2 => exact HC0.out
  rintro e w11_ ⟨v, rfl, ho, hb⟩
  have m_W3 := Aside0.mk (AR.below (by (with_reducible repeat (first | refine AR.alloc ?_ _ | refine AR.drewN ?_ _ | refine AR.drew ?_)); exact W3.out) hb)
  have m_BK6 := Aside0.mk (blk_below (by (with_reducible repeat (first | refine blk_drewN ?_ _ | refine blk_drew ?_ | refine blk_alloc ?_ _)); exact BK6.out) hb)
  have m_X0_ := Aside0.mk (AR.below (by (with_reducible repeat (first | refine AR.alloc ?_ _ | refine AR.drewN ?_ _ | refine AR.drew ?_)); exact X0_.out) hb)
  have m_G3 := Aside0.mk (AR.below (by (with_reducible repeat (first | refine AR.alloc ?_ _ | refine AR.drewN ?_ _ | refine AR.drew ?_)); exact G3.out) hb)
  have m_BK8 := Aside0.mk (blk_below (by (with_reducible repeat (first | refine blk_drewN ?_ _ | refine blk_drew ?_ | refine blk_alloc ?_ _)); exact BK8.out) hb)
  have m_HB := Aside0.mk (below_step (by repeat (first | (with_reducible first | exact HB.out | apply below_alloc | apply pw_below_drewN | apply below_drew1) | exact HB.out)) hb)
  clear hz_BK6_0 hz_BK6_1 hz_BK6_2 hz_BK6_3 hz_BK8_0 hz_BK8_1 hz_BK8_2 hz_BK8_3
  clear HB W3 BK6 X0_ G3 BK8
  have HB := m_HB
  have W3 := m_W3
  have BK6 := m_BK6
  have X0_ := m_X0_
  have G3 := m_G3
  have BK8 := m_BK8
  clear m_HB m_W3 m_BK6 m_X0_ m_G3 m_BK8
  have Z11 := Aside0.mk (show w10_.heap.size ≤ w11_.heap.size from hb.size)
  obtain ⟨A_T0, c_T0, ev_, hc_T0, hA_T0⟩ := AR_of_S (base := w.heap.size) ho (show w.heap.size ≤ w10_.heap.size from (by have := Z1.out; have := Z2.out; have := Z3.out; have := Z4.out; have := Z5.out; have := Z6.out; have := Z7.out; have := Z8.out; have := Z9.out; have := Z10.out; have := Z11.out; have := GE6.out; have := GL6.out; have := GE8.out; have := GL8.out; omega))
  subst ev_
  have HC_T0 := Aside0.mk hc_T0
  have T0 := Aside0.mk (show AR w.heap.size w11_ w10_.heap.size w11_.heap.size A_T0 l0 from hA_T0)
  clear hc_T0 hA_T0 ho
  clear hb
  have hz_BK6_0 : w11_.cell? ⟨g6_, 0, none⟩ = some (.int .i64 q0) := (blk_cell BK6.out 0).trans rfl
  have hz_BK6_1 : w11_.cell? ⟨g6_, 1, none⟩ = some (.int .i64 q1) := (blk_cell BK6.out 1).trans rfl
  have hz_BK6_2 : w11_.cell? ⟨g6_, 2, none⟩ = some (.int .i64 q2) := (blk_cell BK6.out 2).trans rfl
  have hz_BK6_3 : w11_.cell? ⟨g6_, 3, none⟩ = some (.slice A_W3 rs3.length c_W3) := (blk_cell BK6.out 3).trans rfl
  have hz_BK8_0 : w11_.cell? ⟨g8_, 0, none⟩ = some (.int .i64 q0) := (blk_cell BK8.out 0).trans rfl
  have hz_BK8_1 : w11_.cell? ⟨g8_, 1, none⟩ = some (.int .i64 q1) := (blk_cell BK8.out 1).trans rfl
  have hz_BK8_2 : w11_.cell? ⟨g8_, 2, none⟩ = some (.int .i64 q2) := (blk_cell BK8.out 2).trans rfl
  have hz_BK8_3 : w11_.cell? ⟨g8_, 3, none⟩ = some (.slice A_G3 rs3.length c_G3) := (blk_cell BK8.out 3).trans rfl
  go_wp2_with (first | (go_at_call 23; refine hold_here ?_))
  refine hold_go ?_
  refine (laws_eqByteSS.calls _ A_X0_ c_X0_ l0 A_T0 c_T0 l0 true _ ?s1 ?s2 ?s3 ?s4 H_e0.out).mono ?_
  case s1 => exact Kd.F_now (AR.foot (by (with_reducible repeat (first | refine AR.alloc ?_ _ | refine AR.drewN ?_ _ | refine AR.drew ?_)); exact X0_.out))
  case s2 => exact HC_X0_.out
  case s3 => exact Kd.F_now (AR.foot (by (with_reducible repeat (first | refine AR.alloc ?_ _ | refine AR.drewN ?_ _ | refine AR.drew ?_)); exact T0.out))
  case s4 => exact HC_T0.out
  rintro e w12_ ⟨rfl, hd⟩
  have hb := hd.below
  clear hd
  have m_W3 := Aside0.mk (AR.below (by (with_reducible repeat (first | refine AR.alloc ?_ _ | refine AR.drewN ?_ _ | refine AR.drew ?_)); exact W3.out) hb)
  have m_BK6 := Aside0.mk (blk_below (by (with_reducible repeat (first | refine blk_drewN ?_ _ | refine blk_drew ?_ | refine blk_alloc ?_ _)); exact BK6.out) hb)
  have m_X0_ := Aside0.mk (AR.below (by (with_reducible repeat (first | refine AR.alloc ?_ _ | refine AR.drewN ?_ _ | refine AR.drew ?_)); exact X0_.out) hb)
  have m_G3 := Aside0.mk (AR.below (by (with_reducible repeat (first | refine AR.alloc ?_ _ | refine AR.drewN ?_ _ | refine AR.drew ?_)); exact G3.out) hb)
  have m_BK8 := Aside0.mk (blk_below (by (with_reducible repeat (first | refine blk_drewN ?_ _ | refine blk_drew ?_ | refine blk_alloc ?_ _)); exact BK8.out) hb)
  have m_T0 := Aside0.mk (AR.below (by (with_reducible repeat (first | refine AR.alloc ?_ _ | refine AR.drewN ?_ _ | refine AR.drew ?_)); exact T0.out) hb)
  have m_HB := Aside0.mk (below_step (by repeat (first | (with_reducible first | exact HB.out | apply below_alloc | apply pw_below_drewN | apply below_drew1) | exact HB.out)) hb)
  clear hz_BK6_0 hz_BK6_1 hz_BK6_2 hz_BK6_3 hz_BK8_0 hz_BK8_1 hz_BK8_2 hz_BK8_3
  clear HB W3 BK6 X0_ G3 BK8 T0
  have HB := m_HB
  have W3 := m_W3
  have BK6 := m_BK6
  have X0_ := m_X0_
  have G3 := m_G3
  have BK8 := m_BK8
  have T0 := m_T0
  clear m_HB m_W3 m_BK6 m_X0_ m_G3 m_BK8 m_T0
  have Z12 := Aside0.mk (show w11_.heap.size ≤ w12_.heap.size from hb.size)
  clear hb
  have hz_BK6_0 : w12_.cell? ⟨g6_, 0, none⟩ = some (.int .i64 q0) := (blk_cell BK6.out 0).trans rfl
  have hz_BK6_1 : w12_.cell? ⟨g6_, 1, none⟩ = some (.int .i64 q1) := (blk_cell BK6.out 1).trans rfl
  have hz_BK6_2 : w12_.cell? ⟨g6_, 2, none⟩ = some (.int .i64 q2) := (blk_cell BK6.out 2).trans rfl
  have hz_BK6_3 : w12_.cell? ⟨g6_, 3, none⟩ = some (.slice A_W3 rs3.length c_W3) := (blk_cell BK6.out 3).trans rfl
  have hz_BK8_0 : w12_.cell? ⟨g8_, 0, none⟩ = some (.int .i64 q0) := (blk_cell BK8.out 0).trans rfl
  have hz_BK8_1 : w12_.cell? ⟨g8_, 1, none⟩ = some (.int .i64 q1) := (blk_cell BK8.out 1).trans rfl
  have hz_BK8_2 : w12_.cell? ⟨g8_, 2, none⟩ = some (.int .i64 q2) := (blk_cell BK8.out 2).trans rfl
  have hz_BK8_3 : w12_.cell? ⟨g8_, 3, none⟩ = some (.slice A_G3 rs3.length c_G3) := (blk_cell BK8.out 3).trans rfl
  clear T0
  go_wp2_with (first | (go_at_call 24; refine hold_here ?_))
  refine hold_go ?_
  refine (markSST_calls l0 (1) H_o0.out n0 H_n0.out H_p0.out w _ w5_.heap.size w6_.heap.size A_X0_ c_X0_ ?s1 ?s2 ?s3 H_u0.out).mono ?_
  case s1 => exact (by repeat (first | (with_reducible first | exact HB.out | apply below_alloc | apply pw_below_drewN | apply below_drew1) | exact HB.out))
  case s2 => exact (by (with_reducible repeat (first | refine AR.alloc ?_ _ | refine AR.drewN ?_ _ | refine AR.drew ?_)); exact X0_.out)
  case s3 => exact HC_X0_.out
  rintro e w13_ ⟨rfl, ha, hb2, hk⟩
  clear X0_
  have m_W3 := Aside0.mk (AR.kept (by (with_reducible repeat (first | refine AR.alloc ?_ _ | refine AR.drewN ?_ _ | refine AR.drew ?_)); exact W3.out) hk (by have := Z1.out; have := Z2.out; have := Z3.out; have := Z4.out; have := Z5.out; have := Z6.out; have := Z7.out; have := Z8.out; have := Z9.out; have := Z10.out; have := Z11.out; have := Z12.out; have := GE6.out; have := GL6.out; have := GE8.out; have := GL8.out; omega))
  have m_BK6 := Aside0.mk (blk_keptIn (by (with_reducible repeat (first | refine blk_drewN ?_ _ | refine blk_drew ?_ | refine blk_alloc ?_ _)); exact BK6.out) hk (by have := Z1.out; have := Z2.out; have := Z3.out; have := Z4.out; have := Z5.out; have := Z6.out; have := Z7.out; have := Z8.out; have := Z9.out; have := Z10.out; have := Z11.out; have := Z12.out; have := GE6.out; have := GL6.out; have := GE8.out; have := GL8.out; omega))
  have m_G3 := Aside0.mk (AR.kept (by (with_reducible repeat (first | refine AR.alloc ?_ _ | refine AR.drewN ?_ _ | refine AR.drew ?_)); exact G3.out) hk (by have := Z1.out; have := Z2.out; have := Z3.out; have := Z4.out; have := Z5.out; have := Z6.out; have := Z7.out; have := Z8.out; have := Z9.out; have := Z10.out; have := Z11.out; have := Z12.out; have := GE6.out; have := GL6.out; have := GE8.out; have := GL8.out; omega))
  have m_BK8 := Aside0.mk (blk_keptIn (by (with_reducible repeat (first | refine blk_drewN ?_ _ | refine blk_drew ?_ | refine blk_alloc ?_ _)); exact BK8.out) hk (by have := Z1.out; have := Z2.out; have := Z3.out; have := Z4.out; have := Z5.out; have := Z6.out; have := Z7.out; have := Z8.out; have := Z9.out; have := Z10.out; have := Z11.out; have := Z12.out; have := GE6.out; have := GL6.out; have := GE8.out; have := GL8.out; omega))
  have m_HB := Aside0.mk hb2
  clear hz_BK6_0 hz_BK6_1 hz_BK6_2 hz_BK6_3 hz_BK8_0 hz_BK8_1 hz_BK8_2 hz_BK8_3
  clear HB W3 BK6 G3 BK8
  have HB := m_HB
  have W3 := m_W3
  have BK6 := m_BK6
  have G3 := m_G3
  have BK8 := m_BK8
  clear m_HB m_W3 m_BK6 m_G3 m_BK8
  have Z13 := Aside0.mk (show w12_.heap.size ≤ w13_.heap.size from hk.1)
  clear ha
  clear hk hb2
  have hz_BK6_0 : w13_.cell? ⟨g6_, 0, none⟩ = some (.int .i64 q0) := (blk_cell BK6.out 0).trans rfl
  have hz_BK6_1 : w13_.cell? ⟨g6_, 1, none⟩ = some (.int .i64 q1) := (blk_cell BK6.out 1).trans rfl
  have hz_BK6_2 : w13_.cell? ⟨g6_, 2, none⟩ = some (.int .i64 q2) := (blk_cell BK6.out 2).trans rfl
  have hz_BK6_3 : w13_.cell? ⟨g6_, 3, none⟩ = some (.slice A_W3 rs3.length c_W3) := (blk_cell BK6.out 3).trans rfl
  have hz_BK8_0 : w13_.cell? ⟨g8_, 0, none⟩ = some (.int .i64 q0) := (blk_cell BK8.out 0).trans rfl
  have hz_BK8_1 : w13_.cell? ⟨g8_, 1, none⟩ = some (.int .i64 q1) := (blk_cell BK8.out 1).trans rfl
  have hz_BK8_2 : w13_.cell? ⟨g8_, 2, none⟩ = some (.int .i64 q2) := (blk_cell BK8.out 2).trans rfl
  have hz_BK8_3 : w13_.cell? ⟨g8_, 3, none⟩ = some (.slice A_G3 rs3.length c_G3) := (blk_cell BK8.out 3).trans rfl
  go_wp2_with (first | (go_at_call 27; refine hold_here ?_))
  refine hold_go ?_
  refine (laws_eqProofResult.calls _ q0 q1 q2 A_G3 c_G3 rs3 q0 q1 q2 A_W3 c_W3 rs3 true _ ?s1 ?s2 ?s3 ?s4 H_eqr.out).mono ?_
  case s1 => exact Kd.F_now (AR.foot (by (with_reducible repeat (first | refine AR.alloc ?_ _ | refine AR.drewN ?_ _ | refine AR.drew ?_)); exact G3.out))
  case s2 => exact HC_G3.out
  case s3 => exact Kd.F_now (AR.foot (by (with_reducible repeat (first | refine AR.alloc ?_ _ | refine AR.drewN ?_ _ | refine AR.drew ?_)); exact W3.out))
  case s4 => exact HC_W3.out
  rintro e w14_ ⟨rfl, hb⟩
  have m_W3 := Aside0.mk (AR.below (by (with_reducible repeat (first | refine AR.alloc ?_ _ | refine AR.drewN ?_ _ | refine AR.drew ?_)); exact W3.out) hb)
  have m_BK6 := Aside0.mk (blk_below (by (with_reducible repeat (first | refine blk_drewN ?_ _ | refine blk_drew ?_ | refine blk_alloc ?_ _)); exact BK6.out) hb)
  have m_G3 := Aside0.mk (AR.below (by (with_reducible repeat (first | refine AR.alloc ?_ _ | refine AR.drewN ?_ _ | refine AR.drew ?_)); exact G3.out) hb)
  have m_BK8 := Aside0.mk (blk_below (by (with_reducible repeat (first | refine blk_drewN ?_ _ | refine blk_drew ?_ | refine blk_alloc ?_ _)); exact BK8.out) hb)
  have m_HB := Aside0.mk (below_step (by repeat (first | (with_reducible first | exact HB.out | apply below_alloc | apply pw_below_drewN | apply below_drew1) | exact HB.out)) hb)
  clear hz_BK6_0 hz_BK6_1 hz_BK6_2 hz_BK6_3 hz_BK8_0 hz_BK8_1 hz_BK8_2 hz_BK8_3
  clear HB W3 BK6 G3 BK8
  have HB := m_HB
  have W3 := m_W3
  have BK6 := m_BK6
  have G3 := m_G3
  have BK8 := m_BK8
  clear m_HB m_W3 m_BK6 m_G3 m_BK8
  have Z14 := Aside0.mk (show w13_.heap.size ≤ w14_.heap.size from hb.size)
  clear hb
  have hz_BK6_0 : w14_.cell? ⟨g6_, 0, none⟩ = some (.int .i64 q0) := (blk_cell BK6.out 0).trans rfl
  have hz_BK6_1 : w14_.cell? ⟨g6_, 1, none⟩ = some (.int .i64 q1) := (blk_cell BK6.out 1).trans rfl
  have hz_BK6_2 : w14_.cell? ⟨g6_, 2, none⟩ = some (.int .i64 q2) := (blk_cell BK6.out 2).trans rfl
  have hz_BK6_3 : w14_.cell? ⟨g6_, 3, none⟩ = some (.slice A_W3 rs3.length c_W3) := (blk_cell BK6.out 3).trans rfl
  have hz_BK8_0 : w14_.cell? ⟨g8_, 0, none⟩ = some (.int .i64 q0) := (blk_cell BK8.out 0).trans rfl
  have hz_BK8_1 : w14_.cell? ⟨g8_, 1, none⟩ = some (.int .i64 q1) := (blk_cell BK8.out 1).trans rfl
  have hz_BK8_2 : w14_.cell? ⟨g8_, 2, none⟩ = some (.int .i64 q2) := (blk_cell BK8.out 2).trans rfl
  have hz_BK8_3 : w14_.cell? ⟨g8_, 3, none⟩ = some (.slice A_G3 rs3.length c_G3) := (blk_cell BK8.out 3).trans rfl
  go_wp2_with (first | (go_at_call 28; refine hold_here ?_))
  refine hold_go ?_
  refine (markProofResult_calls q0 q1 q2 rs3 1 (by decide) nr H_nr.out H_pr.out w _ w6_.heap.size w7_.heap.size A_G3 c_G3 ?s1 ?s2 ?s3 H_ur.out).mono ?_
  case s1 => exact (by repeat (first | (with_reducible first | exact HB.out | apply below_alloc | apply pw_below_drewN | apply below_drew1) | exact HB.out))
  case s2 => exact (by (with_reducible repeat (first | refine AR.alloc ?_ _ | refine AR.drewN ?_ _ | refine AR.drew ?_)); exact G3.out)
  case s3 => exact HC_G3.out
  rintro e w15_ ⟨rfl, ha, hb2, hk⟩
  clear G3
  have m_W3 := Aside0.mk (AR.kept (by (with_reducible repeat (first | refine AR.alloc ?_ _ | refine AR.drewN ?_ _ | refine AR.drew ?_)); exact W3.out) hk (by have := Z1.out; have := Z2.out; have := Z3.out; have := Z4.out; have := Z5.out; have := Z6.out; have := Z7.out; have := Z8.out; have := Z9.out; have := Z10.out; have := Z11.out; have := Z12.out; have := Z13.out; have := Z14.out; have := GE6.out; have := GL6.out; have := GE8.out; have := GL8.out; omega))
  have m_BK6 := Aside0.mk (blk_keptIn (by (with_reducible repeat (first | refine blk_drewN ?_ _ | refine blk_drew ?_ | refine blk_alloc ?_ _)); exact BK6.out) hk (by have := Z1.out; have := Z2.out; have := Z3.out; have := Z4.out; have := Z5.out; have := Z6.out; have := Z7.out; have := Z8.out; have := Z9.out; have := Z10.out; have := Z11.out; have := Z12.out; have := Z13.out; have := Z14.out; have := GE6.out; have := GL6.out; have := GE8.out; have := GL8.out; omega))
  have m_BK8 := Aside0.mk (blk_keptIn (by (with_reducible repeat (first | refine blk_drewN ?_ _ | refine blk_drew ?_ | refine blk_alloc ?_ _)); exact BK8.out) hk (by have := Z1.out; have := Z2.out; have := Z3.out; have := Z4.out; have := Z5.out; have := Z6.out; have := Z7.out; have := Z8.out; have := Z9.out; have := Z10.out; have := Z11.out; have := Z12.out; have := Z13.out; have := Z14.out; have := GE6.out; have := GL6.out; have := GE8.out; have := GL8.out; omega))
  have m_HB := Aside0.mk hb2
  clear hz_BK6_0 hz_BK6_1 hz_BK6_2 hz_BK6_3 hz_BK8_0 hz_BK8_1 hz_BK8_2 hz_BK8_3
  clear HB W3 BK6 BK8
  have HB := m_HB
  have W3 := m_W3
  have BK6 := m_BK6
  have BK8 := m_BK8
  clear m_HB m_W3 m_BK6 m_BK8
  have Z15 := Aside0.mk (show w14_.heap.size ≤ w15_.heap.size from hk.1)
  rw [H_qr.out] at ha
  have G3 := Aside0.mk ha
  clear ha
  clear hk hb2
  have hz_BK6_0 : w15_.cell? ⟨g6_, 0, none⟩ = some (.int .i64 q0) := (blk_cell BK6.out 0).trans rfl
  have hz_BK6_1 : w15_.cell? ⟨g6_, 1, none⟩ = some (.int .i64 q1) := (blk_cell BK6.out 1).trans rfl
  have hz_BK6_2 : w15_.cell? ⟨g6_, 2, none⟩ = some (.int .i64 q2) := (blk_cell BK6.out 2).trans rfl
  have hz_BK6_3 : w15_.cell? ⟨g6_, 3, none⟩ = some (.slice A_W3 rs3.length c_W3) := (blk_cell BK6.out 3).trans rfl
  have hz_BK8_0 : w15_.cell? ⟨g8_, 0, none⟩ = some (.int .i64 q0) := (blk_cell BK8.out 0).trans rfl
  have hz_BK8_1 : w15_.cell? ⟨g8_, 1, none⟩ = some (.int .i64 q1) := (blk_cell BK8.out 1).trans rfl
  have hz_BK8_2 : w15_.cell? ⟨g8_, 2, none⟩ = some (.int .i64 q2) := (blk_cell BK8.out 2).trans rfl
  have hz_BK8_3 : w15_.cell? ⟨g8_, 3, none⟩ = some (.slice A_G3 rs3.length c_G3) := (blk_cell BK8.out 3).trans rfl
  go_wp2_with (first | (go_at_call 29; refine hold_here ?_))
  refine hold_go ?_
  refine (heldProofResult_len _ q0 q1 q2 A_G3 c_G3 mr rs3.length H_lr.out 1 _ _ ?s1 ?s2 H_hr.out).mono ?_
  case s1 => exact Kd.F_now (AR.foot (by (with_reducible repeat (first | refine AR.alloc ?_ _ | refine AR.drewN ?_ _ | refine AR.drew ?_)); exact G3.out))
  case s2 => exact HC_G3.out
  rintro e w16_ ⟨rfl, hb⟩
  have m_W3 := Aside0.mk (AR.below (by (with_reducible repeat (first | refine AR.alloc ?_ _ | refine AR.drewN ?_ _ | refine AR.drew ?_)); exact W3.out) hb)
  have m_BK6 := Aside0.mk (blk_below (by (with_reducible repeat (first | refine blk_drewN ?_ _ | refine blk_drew ?_ | refine blk_alloc ?_ _)); exact BK6.out) hb)
  have m_BK8 := Aside0.mk (blk_below (by (with_reducible repeat (first | refine blk_drewN ?_ _ | refine blk_drew ?_ | refine blk_alloc ?_ _)); exact BK8.out) hb)
  have m_G3 := Aside0.mk (AR.below (by (with_reducible repeat (first | refine AR.alloc ?_ _ | refine AR.drewN ?_ _ | refine AR.drew ?_)); exact G3.out) hb)
  have m_HB := Aside0.mk (below_step (by repeat (first | (with_reducible first | exact HB.out | apply below_alloc | apply pw_below_drewN | apply below_drew1) | exact HB.out)) hb)
  clear hz_BK6_0 hz_BK6_1 hz_BK6_2 hz_BK6_3 hz_BK8_0 hz_BK8_1 hz_BK8_2 hz_BK8_3
  clear HB W3 BK6 BK8 G3
  have HB := m_HB
  have W3 := m_W3
  have BK6 := m_BK6
  have BK8 := m_BK8
  have G3 := m_G3
  clear m_HB m_W3 m_BK6 m_BK8 m_G3
  have Z16 := Aside0.mk (show w15_.heap.size ≤ w16_.heap.size from hb.size)
  clear hb
  have hz_BK6_0 : w16_.cell? ⟨g6_, 0, none⟩ = some (.int .i64 q0) := (blk_cell BK6.out 0).trans rfl
  have hz_BK6_1 : w16_.cell? ⟨g6_, 1, none⟩ = some (.int .i64 q1) := (blk_cell BK6.out 1).trans rfl
  have hz_BK6_2 : w16_.cell? ⟨g6_, 2, none⟩ = some (.int .i64 q2) := (blk_cell BK6.out 2).trans rfl
  have hz_BK6_3 : w16_.cell? ⟨g6_, 3, none⟩ = some (.slice A_W3 rs3.length c_W3) := (blk_cell BK6.out 3).trans rfl
  have hz_BK8_0 : w16_.cell? ⟨g8_, 0, none⟩ = some (.int .i64 q0) := (blk_cell BK8.out 0).trans rfl
  have hz_BK8_1 : w16_.cell? ⟨g8_, 1, none⟩ = some (.int .i64 q1) := (blk_cell BK8.out 1).trans rfl
  have hz_BK8_2 : w16_.cell? ⟨g8_, 2, none⟩ = some (.int .i64 q2) := (blk_cell BK8.out 2).trans rfl
  have hz_BK8_3 : w16_.cell? ⟨g8_, 3, none⟩ = some (.slice A_G3 rs3.length c_G3) := (blk_cell BK8.out 3).trans rfl
  go_wp2_with (first | (go_at_call 21; refine hold_here ?_))
  refine hold_go ?_
  refine (laws_toByteSS.calls _ A0 c0 l0 l0 _ ?s1 ?s2 H_t0.out).mono ?_
  case s1 => exact Kd.C_below HR0.out (by repeat (first | (with_reducible first | exact HB.out | apply below_alloc | apply pw_below_drewN | apply below_drew1) | exact HB.out))
  case s2 => exact HC0.out
  rintro e w17_ ⟨v, rfl, ho, hb⟩
  have m_W3 := Aside0.mk (AR.below (by (with_reducible repeat (first | refine AR.alloc ?_ _ | refine AR.drewN ?_ _ | refine AR.drew ?_)); exact W3.out) hb)
  have m_BK6 := Aside0.mk (blk_below (by (with_reducible repeat (first | refine blk_drewN ?_ _ | refine blk_drew ?_ | refine blk_alloc ?_ _)); exact BK6.out) hb)
  have m_BK8 := Aside0.mk (blk_below (by (with_reducible repeat (first | refine blk_drewN ?_ _ | refine blk_drew ?_ | refine blk_alloc ?_ _)); exact BK8.out) hb)
  have m_G3 := Aside0.mk (AR.below (by (with_reducible repeat (first | refine AR.alloc ?_ _ | refine AR.drewN ?_ _ | refine AR.drew ?_)); exact G3.out) hb)
  have m_HB := Aside0.mk (below_step (by repeat (first | (with_reducible first | exact HB.out | apply below_alloc | apply pw_below_drewN | apply below_drew1) | exact HB.out)) hb)
  clear hz_BK6_0 hz_BK6_1 hz_BK6_2 hz_BK6_3 hz_BK8_0 hz_BK8_1 hz_BK8_2 hz_BK8_3
  clear HB W3 BK6 BK8 G3
  have HB := m_HB
  have W3 := m_W3
  have BK6 := m_BK6
  have BK8 := m_BK8
  have G3 := m_G3
  clear m_HB m_W3 m_BK6 m_BK8 m_G3
  have Z17 := Aside0.mk (show w16_.heap.size ≤ w17_.heap.size from hb.size)
  obtain ⟨A_T0, c_T0, ev_, hc_T0, hA_T0⟩ := AR_of_S (base := w.heap.size) ho (show w.heap.size ≤ w16_.heap.size from (by have := Z1.out; have := Z2.out; have := Z3.out; have := Z4.out; have := Z5.out; have := Z6.out; have := Z7.out; have := Z8.out; have := Z9.out; have := Z10.out; have := Z11.out; have := Z12.out; have := Z13.out; have := Z14.out; have := Z15.out; have := Z16.out; have := Z17.out; have := GE6.out; have := GL6.out; have := GE8.out; have := GL8.out; omega))
  subst ev_
  have HC_T0 := Aside0.mk hc_T0
  have T0 := Aside0.mk (show AR w.heap.size w17_ w16_.heap.size w17_.heap.size A_T0 l0 from hA_T0)
  clear hc_T0 hA_T0 ho
  clear hb
  have hz_BK6_0 : w17_.cell? ⟨g6_, 0, none⟩ = some (.int .i64 q0) := (blk_cell BK6.out 0).trans rfl
  have hz_BK6_1 : w17_.cell? ⟨g6_, 1, none⟩ = some (.int .i64 q1) := (blk_cell BK6.out 1).trans rfl
  have hz_BK6_2 : w17_.cell? ⟨g6_, 2, none⟩ = some (.int .i64 q2) := (blk_cell BK6.out 2).trans rfl
  have hz_BK6_3 : w17_.cell? ⟨g6_, 3, none⟩ = some (.slice A_W3 rs3.length c_W3) := (blk_cell BK6.out 3).trans rfl
  have hz_BK8_0 : w17_.cell? ⟨g8_, 0, none⟩ = some (.int .i64 q0) := (blk_cell BK8.out 0).trans rfl
  have hz_BK8_1 : w17_.cell? ⟨g8_, 1, none⟩ = some (.int .i64 q1) := (blk_cell BK8.out 1).trans rfl
  have hz_BK8_2 : w17_.cell? ⟨g8_, 2, none⟩ = some (.int .i64 q2) := (blk_cell BK8.out 2).trans rfl
  have hz_BK8_3 : w17_.cell? ⟨g8_, 3, none⟩ = some (.slice A_G3 rs3.length c_G3) := (blk_cell BK8.out 3).trans rfl
  go_wp2_with (first | (go_at_call 26; refine hold_here ?_))
  refine hold_go ?_
  refine (impl_ProveLeaf.calls _ A_T0 c_T0 l0 a1 q0 q1 q2 rs3 _ ?s1 ?s2 H_impl.out).mono ?_
  case s1 => exact Kd.F_now (AR.foot (by (with_reducible repeat (first | refine AR.alloc ?_ _ | refine AR.drewN ?_ _ | refine AR.drew ?_)); exact T0.out))
  case s2 => exact HC_T0.out
  rintro e w18_ ⟨v3, rfl, ho3, hb⟩
  have m_W3 := Aside0.mk (AR.below (by (with_reducible repeat (first | refine AR.alloc ?_ _ | refine AR.drewN ?_ _ | refine AR.drew ?_)); exact W3.out) hb)
  have m_BK6 := Aside0.mk (blk_below (by (with_reducible repeat (first | refine blk_drewN ?_ _ | refine blk_drew ?_ | refine blk_alloc ?_ _)); exact BK6.out) hb)
  have m_BK8 := Aside0.mk (blk_below (by (with_reducible repeat (first | refine blk_drewN ?_ _ | refine blk_drew ?_ | refine blk_alloc ?_ _)); exact BK8.out) hb)
  have m_G3 := Aside0.mk (AR.below (by (with_reducible repeat (first | refine AR.alloc ?_ _ | refine AR.drewN ?_ _ | refine AR.drew ?_)); exact G3.out) hb)
  have m_T0 := Aside0.mk (AR.below (by (with_reducible repeat (first | refine AR.alloc ?_ _ | refine AR.drewN ?_ _ | refine AR.drew ?_)); exact T0.out) hb)
  have m_HB := Aside0.mk (below_step (by repeat (first | (with_reducible first | exact HB.out | apply below_alloc | apply pw_below_drewN | apply below_drew1) | exact HB.out)) hb)
  clear hz_BK6_0 hz_BK6_1 hz_BK6_2 hz_BK6_3 hz_BK8_0 hz_BK8_1 hz_BK8_2 hz_BK8_3
  clear HB W3 BK6 BK8 G3 T0
  have HB := m_HB
  have W3 := m_W3
  have BK6 := m_BK6
  have BK8 := m_BK8
  have G3 := m_G3
  have T0 := m_T0
  clear m_HB m_W3 m_BK6 m_BK8 m_G3 m_T0
  have Z18 := Aside0.mk (show w17_.heap.size ≤ w18_.heap.size from hb.size)
  obtain ⟨A_H3, c_H3, ev_, hc_H3, hA_H3⟩ := AR_of_S (base := w.heap.size) ho3 (show w.heap.size ≤ w17_.heap.size from (by have := Z1.out; have := Z2.out; have := Z3.out; have := Z4.out; have := Z5.out; have := Z6.out; have := Z7.out; have := Z8.out; have := Z9.out; have := Z10.out; have := Z11.out; have := Z12.out; have := Z13.out; have := Z14.out; have := Z15.out; have := Z16.out; have := Z17.out; have := Z18.out; have := GE6.out; have := GL6.out; have := GE8.out; have := GL8.out; omega))
  subst ev_
  have HC_H3 := Aside0.mk hc_H3
  have H3 := Aside0.mk (show AR w.heap.size w18_ w17_.heap.size w18_.heap.size A_H3 rs3 from hA_H3)
  clear hc_H3 hA_H3 ho3
  clear hb
  have hz_BK6_0 : w18_.cell? ⟨g6_, 0, none⟩ = some (.int .i64 q0) := (blk_cell BK6.out 0).trans rfl
  have hz_BK6_1 : w18_.cell? ⟨g6_, 1, none⟩ = some (.int .i64 q1) := (blk_cell BK6.out 1).trans rfl
  have hz_BK6_2 : w18_.cell? ⟨g6_, 2, none⟩ = some (.int .i64 q2) := (blk_cell BK6.out 2).trans rfl
  have hz_BK6_3 : w18_.cell? ⟨g6_, 3, none⟩ = some (.slice A_W3 rs3.length c_W3) := (blk_cell BK6.out 3).trans rfl
  have hz_BK8_0 : w18_.cell? ⟨g8_, 0, none⟩ = some (.int .i64 q0) := (blk_cell BK8.out 0).trans rfl
  have hz_BK8_1 : w18_.cell? ⟨g8_, 1, none⟩ = some (.int .i64 q1) := (blk_cell BK8.out 1).trans rfl
  have hz_BK8_2 : w18_.cell? ⟨g8_, 2, none⟩ = some (.int .i64 q2) := (blk_cell BK8.out 2).trans rfl
  have hz_BK8_3 : w18_.cell? ⟨g8_, 3, none⟩ = some (.slice A_G3 rs3.length c_G3) := (blk_cell BK8.out 3).trans rfl
  go_wp2_with (first | ((with_reducible refine gate_dst (N := 12) rfl ?_); refine hold_here ?_))
  refine hold_go ?_
  refine box_event (N := 12) (cs := #[.int .i64 0, .int .i64 0, .int .i64 0, .slice none 0 0]) (t := 43) ?hgb rfl ?hrb ?_
  case hgb => rfl
  case hrb => first | (go_simp; done) | (go_simp; rfl)
  intro g12_ hg w19_ hbox hb
  have m_W3 := Aside0.mk (AR.below (by (with_reducible repeat (first | refine AR.alloc ?_ _ | refine AR.drewN ?_ _ | refine AR.drew ?_)); exact W3.out) hb)
  have m_BK6 := Aside0.mk (blk_below (by (with_reducible repeat (first | refine blk_drewN ?_ _ | refine blk_drew ?_ | refine blk_alloc ?_ _)); exact BK6.out) hb)
  have m_BK8 := Aside0.mk (blk_below (by (with_reducible repeat (first | refine blk_drewN ?_ _ | refine blk_drew ?_ | refine blk_alloc ?_ _)); exact BK8.out) hb)
  have m_G3 := Aside0.mk (AR.below (by (with_reducible repeat (first | refine AR.alloc ?_ _ | refine AR.drewN ?_ _ | refine AR.drew ?_)); exact G3.out) hb)
  have m_T0 := Aside0.mk (AR.below (by (with_reducible repeat (first | refine AR.alloc ?_ _ | refine AR.drewN ?_ _ | refine AR.drew ?_)); exact T0.out) hb)
  have m_H3 := Aside0.mk (AR.below (by (with_reducible repeat (first | refine AR.alloc ?_ _ | refine AR.drewN ?_ _ | refine AR.drew ?_)); exact H3.out) hb)
  have m_HB := Aside0.mk (below_step (by repeat (first | (with_reducible first | exact HB.out | apply below_alloc | apply pw_below_drewN | apply below_drew1) | exact HB.out)) hb)
  clear hz_BK6_0 hz_BK6_1 hz_BK6_2 hz_BK6_3 hz_BK8_0 hz_BK8_1 hz_BK8_2 hz_BK8_3
  clear HB W3 BK6 BK8 G3 T0 H3
  have HB := m_HB
  have W3 := m_W3
  have BK6 := m_BK6
  have BK8 := m_BK8
  have G3 := m_G3
  have T0 := m_T0
  have H3 := m_H3
  clear m_HB m_W3 m_BK6 m_BK8 m_G3 m_T0 m_H3
  have Z19 := Aside0.mk (show w18_.heap.size ≤ w19_.heap.size from hb.size)
  have BK12 := Aside0.mk hbox
  have GE12 := Aside0.mk (show g12_ = w18_.heap.size from hg)
  have GL12 := Aside0.mk (show g12_ < w19_.heap.size from blk_lt hbox)
  clear hb hbox hg
  go_wp2_with (first | ((with_reducible refine gate_store (t := 43) (p := 12) (v := .tmp 61) rfl ?_); refine hold_here ?_))
  refine hold_go ?_
  refine row_store rfl 43 (.tmp 12) (.tmp 61) rfl g12_ #[.int .i64 q0, .int .i64 q1, .int .i64 q2, .slice A_H3 rs3.length c_H3] rfl rfl 43 _ (by (with_reducible repeat (first | refine blk_drewN ?_ _ | refine blk_drew ?_ | refine blk_alloc ?_ _)); exact BK12.out) ?hi ?ho ?h1 rfl (by repeat (first | (with_reducible first | exact HB.out | apply below_alloc | apply pw_below_drewN | apply below_drew1) | exact HB.out)) (show w.heap.size ≤ g12_ from (by have := Z1.out; have := Z2.out; have := Z3.out; have := Z4.out; have := Z5.out; have := Z6.out; have := Z7.out; have := Z8.out; have := Z9.out; have := Z10.out; have := Z11.out; have := Z12.out; have := Z13.out; have := Z14.out; have := Z15.out; have := Z16.out; have := Z17.out; have := Z18.out; have := Z19.out; have := GE6.out; have := GL6.out; have := GE8.out; have := GL8.out; have := GE12.out; have := GL12.out; omega)) ?_
  case hi => kernel_rfl
  case ho => rfl
  case h1 => first | rfl | (simp [Value.oneCell']; done) | (go_simp; done)
  intro w20_ bo hk hb2
  clear BK12
  have m_W3 := Aside0.mk (AR.kept (by (with_reducible repeat (first | refine AR.alloc ?_ _ | refine AR.drewN ?_ _ | refine AR.drew ?_)); exact W3.out) hk (by have := Z1.out; have := Z2.out; have := Z3.out; have := Z4.out; have := Z5.out; have := Z6.out; have := Z7.out; have := Z8.out; have := Z9.out; have := Z10.out; have := Z11.out; have := Z12.out; have := Z13.out; have := Z14.out; have := Z15.out; have := Z16.out; have := Z17.out; have := Z18.out; have := Z19.out; have := GE6.out; have := GL6.out; have := GE8.out; have := GL8.out; have := GE12.out; have := GL12.out; omega))
  have m_BK6 := Aside0.mk (blk_keptIn (by (with_reducible repeat (first | refine blk_drewN ?_ _ | refine blk_drew ?_ | refine blk_alloc ?_ _)); exact BK6.out) hk (by have := Z1.out; have := Z2.out; have := Z3.out; have := Z4.out; have := Z5.out; have := Z6.out; have := Z7.out; have := Z8.out; have := Z9.out; have := Z10.out; have := Z11.out; have := Z12.out; have := Z13.out; have := Z14.out; have := Z15.out; have := Z16.out; have := Z17.out; have := Z18.out; have := Z19.out; have := GE6.out; have := GL6.out; have := GE8.out; have := GL8.out; have := GE12.out; have := GL12.out; omega))
  have m_BK8 := Aside0.mk (blk_keptIn (by (with_reducible repeat (first | refine blk_drewN ?_ _ | refine blk_drew ?_ | refine blk_alloc ?_ _)); exact BK8.out) hk (by have := Z1.out; have := Z2.out; have := Z3.out; have := Z4.out; have := Z5.out; have := Z6.out; have := Z7.out; have := Z8.out; have := Z9.out; have := Z10.out; have := Z11.out; have := Z12.out; have := Z13.out; have := Z14.out; have := Z15.out; have := Z16.out; have := Z17.out; have := Z18.out; have := Z19.out; have := GE6.out; have := GL6.out; have := GE8.out; have := GL8.out; have := GE12.out; have := GL12.out; omega))
  have m_G3 := Aside0.mk (AR.kept (by (with_reducible repeat (first | refine AR.alloc ?_ _ | refine AR.drewN ?_ _ | refine AR.drew ?_)); exact G3.out) hk (by have := Z1.out; have := Z2.out; have := Z3.out; have := Z4.out; have := Z5.out; have := Z6.out; have := Z7.out; have := Z8.out; have := Z9.out; have := Z10.out; have := Z11.out; have := Z12.out; have := Z13.out; have := Z14.out; have := Z15.out; have := Z16.out; have := Z17.out; have := Z18.out; have := Z19.out; have := GE6.out; have := GL6.out; have := GE8.out; have := GL8.out; have := GE12.out; have := GL12.out; omega))
  have m_T0 := Aside0.mk (AR.kept (by (with_reducible repeat (first | refine AR.alloc ?_ _ | refine AR.drewN ?_ _ | refine AR.drew ?_)); exact T0.out) hk (by have := Z1.out; have := Z2.out; have := Z3.out; have := Z4.out; have := Z5.out; have := Z6.out; have := Z7.out; have := Z8.out; have := Z9.out; have := Z10.out; have := Z11.out; have := Z12.out; have := Z13.out; have := Z14.out; have := Z15.out; have := Z16.out; have := Z17.out; have := Z18.out; have := Z19.out; have := GE6.out; have := GL6.out; have := GE8.out; have := GL8.out; have := GE12.out; have := GL12.out; omega))
  have m_H3 := Aside0.mk (AR.kept (by (with_reducible repeat (first | refine AR.alloc ?_ _ | refine AR.drewN ?_ _ | refine AR.drew ?_)); exact H3.out) hk (by have := Z1.out; have := Z2.out; have := Z3.out; have := Z4.out; have := Z5.out; have := Z6.out; have := Z7.out; have := Z8.out; have := Z9.out; have := Z10.out; have := Z11.out; have := Z12.out; have := Z13.out; have := Z14.out; have := Z15.out; have := Z16.out; have := Z17.out; have := Z18.out; have := Z19.out; have := GE6.out; have := GL6.out; have := GE8.out; have := GL8.out; have := GE12.out; have := GL12.out; omega))
  have m_HB := Aside0.mk hb2
  clear HB W3 BK6 BK8 G3 T0 H3
  have HB := m_HB
  have W3 := m_W3
  have BK6 := m_BK6
  have BK8 := m_BK8
  have G3 := m_G3
  have T0 := m_T0
  have H3 := m_H3
  clear m_HB m_W3 m_BK6 m_BK8 m_G3 m_T0 m_H3
  have Z20 := Aside0.mk (show w19_.heap.size ≤ w20_.heap.size from hk.1)
  have BK12 := Aside0.mk bo
  clear bo hk hb2
  have hz_BK6_0 : w20_.cell? ⟨g6_, 0, none⟩ = some (.int .i64 q0) := (blk_cell BK6.out 0).trans rfl
  have hz_BK6_1 : w20_.cell? ⟨g6_, 1, none⟩ = some (.int .i64 q1) := (blk_cell BK6.out 1).trans rfl
  have hz_BK6_2 : w20_.cell? ⟨g6_, 2, none⟩ = some (.int .i64 q2) := (blk_cell BK6.out 2).trans rfl
  have hz_BK6_3 : w20_.cell? ⟨g6_, 3, none⟩ = some (.slice A_W3 rs3.length c_W3) := (blk_cell BK6.out 3).trans rfl
  have hz_BK8_0 : w20_.cell? ⟨g8_, 0, none⟩ = some (.int .i64 q0) := (blk_cell BK8.out 0).trans rfl
  have hz_BK8_1 : w20_.cell? ⟨g8_, 1, none⟩ = some (.int .i64 q1) := (blk_cell BK8.out 1).trans rfl
  have hz_BK8_2 : w20_.cell? ⟨g8_, 2, none⟩ = some (.int .i64 q2) := (blk_cell BK8.out 2).trans rfl
  have hz_BK8_3 : w20_.cell? ⟨g8_, 3, none⟩ = some (.slice A_G3 rs3.length c_G3) := (blk_cell BK8.out 3).trans rfl
  have hz_BK12_0 : w20_.cell? ⟨g12_, 0, none⟩ = some (.int .i64 q0) := (blk_cell BK12.out 0).trans rfl
  have hz_BK12_1 : w20_.cell? ⟨g12_, 1, none⟩ = some (.int .i64 q1) := (blk_cell BK12.out 1).trans rfl
  have hz_BK12_2 : w20_.cell? ⟨g12_, 2, none⟩ = some (.int .i64 q2) := (blk_cell BK12.out 2).trans rfl
  have hz_BK12_3 : w20_.cell? ⟨g12_, 3, none⟩ = some (.slice A_H3 rs3.length c_H3) := (blk_cell BK12.out 3).trans rfl
  go_wp2_with (first | (go_at_call 27; refine hold_here ?_))
  refine hold_go ?_
  refine (laws_eqProofResult.calls _ q0 q1 q2 A_H3 c_H3 rs3 q0 q1 q2 A_W3 c_W3 rs3 true _ ?s1 ?s2 ?s3 ?s4 H_eqr.out).mono ?_
  case s1 => exact Kd.F_now (AR.foot (by (with_reducible repeat (first | refine AR.alloc ?_ _ | refine AR.drewN ?_ _ | refine AR.drew ?_)); exact H3.out))
  case s2 => exact HC_H3.out
  case s3 => exact Kd.F_now (AR.foot (by (with_reducible repeat (first | refine AR.alloc ?_ _ | refine AR.drewN ?_ _ | refine AR.drew ?_)); exact W3.out))
  case s4 => exact HC_W3.out
  rintro e w21_ ⟨rfl, hb⟩
  have m_W3 := Aside0.mk (AR.below (by (with_reducible repeat (first | refine AR.alloc ?_ _ | refine AR.drewN ?_ _ | refine AR.drew ?_)); exact W3.out) hb)
  have m_BK6 := Aside0.mk (blk_below (by (with_reducible repeat (first | refine blk_drewN ?_ _ | refine blk_drew ?_ | refine blk_alloc ?_ _)); exact BK6.out) hb)
  have m_BK8 := Aside0.mk (blk_below (by (with_reducible repeat (first | refine blk_drewN ?_ _ | refine blk_drew ?_ | refine blk_alloc ?_ _)); exact BK8.out) hb)
  have m_G3 := Aside0.mk (AR.below (by (with_reducible repeat (first | refine AR.alloc ?_ _ | refine AR.drewN ?_ _ | refine AR.drew ?_)); exact G3.out) hb)
  have m_T0 := Aside0.mk (AR.below (by (with_reducible repeat (first | refine AR.alloc ?_ _ | refine AR.drewN ?_ _ | refine AR.drew ?_)); exact T0.out) hb)
  have m_H3 := Aside0.mk (AR.below (by (with_reducible repeat (first | refine AR.alloc ?_ _ | refine AR.drewN ?_ _ | refine AR.drew ?_)); exact H3.out) hb)
  have m_BK12 := Aside0.mk (blk_below (by (with_reducible repeat (first | refine blk_drewN ?_ _ | refine blk_drew ?_ | refine blk_alloc ?_ _)); exact BK12.out) hb)
  have m_HB := Aside0.mk (below_step (by repeat (first | (with_reducible first | exact HB.out | apply below_alloc | apply pw_below_drewN | apply below_drew1) | exact HB.out)) hb)
  clear hz_BK6_0 hz_BK6_1 hz_BK6_2 hz_BK6_3 hz_BK8_0 hz_BK8_1 hz_BK8_2 hz_BK8_3 hz_BK12_0 hz_BK12_1 hz_BK12_2 hz_BK12_3
  clear HB W3 BK6 BK8 G3 T0 H3 BK12
  have HB := m_HB
  have W3 := m_W3
  have BK6 := m_BK6
  have BK8 := m_BK8
  have G3 := m_G3
  have T0 := m_T0
  have H3 := m_H3
  have BK12 := m_BK12
  clear m_HB m_W3 m_BK6 m_BK8 m_G3 m_T0 m_H3 m_BK12
  have Z21 := Aside0.mk (show w20_.heap.size ≤ w21_.heap.size from hb.size)
  clear hb
  have hz_BK6_0 : w21_.cell? ⟨g6_, 0, none⟩ = some (.int .i64 q0) := (blk_cell BK6.out 0).trans rfl
  have hz_BK6_1 : w21_.cell? ⟨g6_, 1, none⟩ = some (.int .i64 q1) := (blk_cell BK6.out 1).trans rfl
  have hz_BK6_2 : w21_.cell? ⟨g6_, 2, none⟩ = some (.int .i64 q2) := (blk_cell BK6.out 2).trans rfl
  have hz_BK6_3 : w21_.cell? ⟨g6_, 3, none⟩ = some (.slice A_W3 rs3.length c_W3) := (blk_cell BK6.out 3).trans rfl
  have hz_BK8_0 : w21_.cell? ⟨g8_, 0, none⟩ = some (.int .i64 q0) := (blk_cell BK8.out 0).trans rfl
  have hz_BK8_1 : w21_.cell? ⟨g8_, 1, none⟩ = some (.int .i64 q1) := (blk_cell BK8.out 1).trans rfl
  have hz_BK8_2 : w21_.cell? ⟨g8_, 2, none⟩ = some (.int .i64 q2) := (blk_cell BK8.out 2).trans rfl
  have hz_BK8_3 : w21_.cell? ⟨g8_, 3, none⟩ = some (.slice A_G3 rs3.length c_G3) := (blk_cell BK8.out 3).trans rfl
  have hz_BK12_0 : w21_.cell? ⟨g12_, 0, none⟩ = some (.int .i64 q0) := (blk_cell BK12.out 0).trans rfl
  have hz_BK12_1 : w21_.cell? ⟨g12_, 1, none⟩ = some (.int .i64 q1) := (blk_cell BK12.out 1).trans rfl
  have hz_BK12_2 : w21_.cell? ⟨g12_, 2, none⟩ = some (.int .i64 q2) := (blk_cell BK12.out 2).trans rfl
  have hz_BK12_3 : w21_.cell? ⟨g12_, 3, none⟩ = some (.slice A_H3 rs3.length c_H3) := (blk_cell BK12.out 3).trans rfl
  go_wp2_with (first | (go_at_call 29; refine hold_here ?_))
  refine hold_go ?_
  refine (heldProofResult_len _ q0 q1 q2 A_G3 c_G3 mr rs3.length H_lr.out 1 _ _ ?s1 ?s2 H_hr.out).mono ?_
  case s1 => exact Kd.F_now (AR.foot (by (with_reducible repeat (first | refine AR.alloc ?_ _ | refine AR.drewN ?_ _ | refine AR.drew ?_)); exact G3.out))
  case s2 => exact HC_G3.out
  rintro e w22_ ⟨rfl, hb⟩
  have m_W3 := Aside0.mk (AR.below (by (with_reducible repeat (first | refine AR.alloc ?_ _ | refine AR.drewN ?_ _ | refine AR.drew ?_)); exact W3.out) hb)
  have m_BK6 := Aside0.mk (blk_below (by (with_reducible repeat (first | refine blk_drewN ?_ _ | refine blk_drew ?_ | refine blk_alloc ?_ _)); exact BK6.out) hb)
  have m_BK8 := Aside0.mk (blk_below (by (with_reducible repeat (first | refine blk_drewN ?_ _ | refine blk_drew ?_ | refine blk_alloc ?_ _)); exact BK8.out) hb)
  have m_G3 := Aside0.mk (AR.below (by (with_reducible repeat (first | refine AR.alloc ?_ _ | refine AR.drewN ?_ _ | refine AR.drew ?_)); exact G3.out) hb)
  have m_T0 := Aside0.mk (AR.below (by (with_reducible repeat (first | refine AR.alloc ?_ _ | refine AR.drewN ?_ _ | refine AR.drew ?_)); exact T0.out) hb)
  have m_H3 := Aside0.mk (AR.below (by (with_reducible repeat (first | refine AR.alloc ?_ _ | refine AR.drewN ?_ _ | refine AR.drew ?_)); exact H3.out) hb)
  have m_BK12 := Aside0.mk (blk_below (by (with_reducible repeat (first | refine blk_drewN ?_ _ | refine blk_drew ?_ | refine blk_alloc ?_ _)); exact BK12.out) hb)
  have m_HB := Aside0.mk (below_step (by repeat (first | (with_reducible first | exact HB.out | apply below_alloc | apply pw_below_drewN | apply below_drew1) | exact HB.out)) hb)
  clear hz_BK6_0 hz_BK6_1 hz_BK6_2 hz_BK6_3 hz_BK8_0 hz_BK8_1 hz_BK8_2 hz_BK8_3 hz_BK12_0 hz_BK12_1 hz_BK12_2 hz_BK12_3
  clear HB W3 BK6 BK8 G3 T0 H3 BK12
  have HB := m_HB
  have W3 := m_W3
  have BK6 := m_BK6
  have BK8 := m_BK8
  have G3 := m_G3
  have T0 := m_T0
  have H3 := m_H3
  have BK12 := m_BK12
  clear m_HB m_W3 m_BK6 m_BK8 m_G3 m_T0 m_H3 m_BK12
  have Z22 := Aside0.mk (show w21_.heap.size ≤ w22_.heap.size from hb.size)
  clear hb
  have hz_BK6_0 : w22_.cell? ⟨g6_, 0, none⟩ = some (.int .i64 q0) := (blk_cell BK6.out 0).trans rfl
  have hz_BK6_1 : w22_.cell? ⟨g6_, 1, none⟩ = some (.int .i64 q1) := (blk_cell BK6.out 1).trans rfl
  have hz_BK6_2 : w22_.cell? ⟨g6_, 2, none⟩ = some (.int .i64 q2) := (blk_cell BK6.out 2).trans rfl
  have hz_BK6_3 : w22_.cell? ⟨g6_, 3, none⟩ = some (.slice A_W3 rs3.length c_W3) := (blk_cell BK6.out 3).trans rfl
  have hz_BK8_0 : w22_.cell? ⟨g8_, 0, none⟩ = some (.int .i64 q0) := (blk_cell BK8.out 0).trans rfl
  have hz_BK8_1 : w22_.cell? ⟨g8_, 1, none⟩ = some (.int .i64 q1) := (blk_cell BK8.out 1).trans rfl
  have hz_BK8_2 : w22_.cell? ⟨g8_, 2, none⟩ = some (.int .i64 q2) := (blk_cell BK8.out 2).trans rfl
  have hz_BK8_3 : w22_.cell? ⟨g8_, 3, none⟩ = some (.slice A_G3 rs3.length c_G3) := (blk_cell BK8.out 3).trans rfl
  have hz_BK12_0 : w22_.cell? ⟨g12_, 0, none⟩ = some (.int .i64 q0) := (blk_cell BK12.out 0).trans rfl
  have hz_BK12_1 : w22_.cell? ⟨g12_, 1, none⟩ = some (.int .i64 q1) := (blk_cell BK12.out 1).trans rfl
  have hz_BK12_2 : w22_.cell? ⟨g12_, 2, none⟩ = some (.int .i64 q2) := (blk_cell BK12.out 2).trans rfl
  have hz_BK12_3 : w22_.cell? ⟨g12_, 3, none⟩ = some (.slice A_H3 rs3.length c_H3) := (blk_cell BK12.out 3).trans rfl
  go_wp2
  go_ret
  exact ⟨rfl, (by repeat (first | (with_reducible first | exact HB.out | apply below_alloc | apply pw_below_drewN | apply below_drew1) | exact HB.out))⟩
theorem law_ProveLeaf_big (A0 : Option Addr) (c0 : Nat) (l0 : List (List Int)) (a1 : Int) (w : World) (hr0 : Kd.C (Kd.slice 5 (Kd.int .u8)) w A0 l0.length l0) (hc0 : l0.length ≤ c0) (ksz : Nat) (sz : Int) (h_sz : laws_szByteSS.f ksz l0 1048576 = some sz) (h_szc : sz < 0) :
    Calls Try.prog 6 #[.slice A0 l0.length c0, .int .i64 a1] w fun e w' => e = .returned (.bool true) ∧ Below w.heap.size w w' := by
  have HR0 := Aside0.mk hr0
  have HC0 := Aside0.mk hc0
  have csz_ : decide (sz < 0) = true := decide_eq_true h_szc
  clear hr0 hc0
  go_enter Try.func6, Try.ntmps6
  go_wp2_with (first | (go_at_call 19; refine hold_here ?_))
  refine hold_go ?_
  refine (laws_szByteSS.calls _ A0 c0 l0 1048576 sz _ ?s1 ?s2 h_sz).mono ?_
  case s1 => first | exact HR0.out | exact Kd.C_below HR0.out (by repeat (first | (with_reducible first | exact Below.refl _ _ | apply below_alloc | apply pw_below_drewN | apply below_drew1) | exact Below.refl _ _))
  case s2 => exact HC0.out
  rintro e w1 ⟨rfl, hd⟩
  have hb := hd.below
  clear hd
  go_wp2
  go_ret
  exact ⟨rfl, below_then (by repeat (first | (with_reducible first | exact Below.refl _ _ | apply below_alloc | apply pw_below_drewN | apply below_drew1) | exact Below.refl _ _)) (Nat.le_refl _) hb⟩

end Go.Proofs.Ytecndndpjekjbaa.S

/- DIRECT: the law FnExactProveLeaf returns true at every argument: the program's ProveLeaf and the reference's answer alike, in new memory. No condition. -/
set_option linter.unusedVariables false
namespace Go.Proofs.Ytecndndpjekjbaa.Pure
open Go Go.RowKit Go.Proofs.Ytecndndpjekjbaa.S Go.Proofs.YtecndndpjekjbaaW.PrintWords Go.Proofs.YtecndndpjekjbaaW.PrintLast Go.Proofs.YtecndndpjekjbaaW.PrintMore Go.Proofs.Ytecndndpjekjbaa.Base Go.Proofs.Ytecndndpjekjbaa.Sha

theorem FnExactProveLeaf (l0 : List (List Int)) (a1 : Int) (hl : l0.length ≤ 9223372036854775807) (hw : ∀ y ∈ l0, y.length ≤ 9223372036854775807 ∧ ∀ y2 ∈ y, (Lit.int .u8 y2).wf = true) (_w1 : (Lit.int .i64 a1).wf = true) (A0 : Option Addr) (c0 : Nat) (w : World) (hr0 : Kd.C (Kd.slice 5 (Kd.int .u8)) w A0 l0.length l0) (hc0 : l0.length ≤ c0) :
    Calls Try.prog 6 #[.slice A0 l0.length c0, .int .i64 a1] w fun e w' => e = .returned (.bool true) ∧ Below w.heap.size w w' := by
  obtain ⟨sz, hsz, _, hz⟩ := szByteSS_ex l0 hl (fun l hm => (hw l hm).1) 1048576 (by omega) (by omega)
  obtain ⟨ksz, hsz⟩ := hsz.rounds
  by_cases c : sz < 0
  · exact law_ProveLeaf_big A0 c0 l0 a1 w hr0 hc0 ksz sz hsz c
  have hz := hz c
  have hmem : ∀ l ∈ l0, l.length ≤ 281474976710656 := fun l hm => by have := mem_flat hm; omega
  have hb : ∀ l ∈ l0, Byt l := fun l hm => byt_of_wf (hw l hm).2
  have hs := spec_ProveLeaf_ev (ls := l0) hb a1
  have hi := impl_ProveLeaf_ev (ls := l0) hb a1
  obtain ⟨hn, hn2⟩ := proveV_ok l0 a1
  generalize proveV l0 a1 = r at *
  obtain ⟨q0, q1, q2, rs⟩ := r
  simp only at hn hn2
  have hf := flat_small (n := 16) (m := 32) hn (fun w hm => by have := hn2 w hm; omega)
  have hmr : ∀ l ∈ rs, l.length ≤ 281474976710656 := fun l hm => by have := hn2 l hm; omega
  obtain ⟨kt, ht⟩ := (toByteSS_ev l0 (by omega) hmem).rounds
  obtain ⟨ke, he⟩ := (eqByteSS_ev l0 (by omega) hmem).rounds
  obtain ⟨ks, hs⟩ := hs.rounds
  obtain ⟨ki, hi⟩ := hi.rounds
  obtain ⟨kr, her⟩ := (show Ev (fun k => laws_eqProofResult.f k q0 q1 q2 rs q0 q1 q2 rs) true from by
    unfold laws_eqProofResult.f laws_eqProof.f
    exact ev_pos rfl (ev_bind (ev_pos rfl (ev_pos rfl (ev_bind (eqByteSS_ev rs (by omega) hmr) (ev_pos rfl (ev_now rfl))))) (ev_pos rfl (ev_now rfl)))).rounds
  obtain ⟨kh, hh⟩ := (show Ev (fun k => laws_heldProofResult.f k q0 q1 q2 (markAll 1 rs) 1) (1 + (rs.flatten.length : Int)) from by
    unfold laws_heldProofResult.f laws_heldProof.f
    exact ev_bind (ev_bind (heldSS_ev rs 1 (by omega) (by omega) (by omega)) (ev_neg (by omega) (ev_now rfl))) (ev_neg (by omega) (ev_now rfl))).rounds
  exact law_ProveLeaf A0 c0 l0 a1 q0 q1 q2 rs l0.flatten.length (markAll 1 rs) rs.flatten.length sz w hr0 hc0 ke kr kh ki ks ksz kt hsz c ht he hs hi her rfl (by decide) (by omega) (by omega) rfl (by omega) (by omega) rfl (markAll_length rs 1) hh
end Go.Proofs.Ytecndndpjekjbaa.Pure
