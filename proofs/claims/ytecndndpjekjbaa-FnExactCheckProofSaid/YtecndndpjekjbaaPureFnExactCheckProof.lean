import Derived.Test.YtecndndpjekjbaaShaI
import Derived.Test.YtecndndpjekjbaaPStr
import Derived.Test.YtecndndpjekjbaaSxSpecTaggedDigest
import Derived.Test.YtecndndpjekjbaaSxImplTaggedY
import Derived.Test.YtecndndpjekjbaaSxImplDigestY
import Derived.Test.YtecndndpjekjbaaSxSpecDigest
import Derived.Test.YtecndndpjekjbaaBase
import Derived.Test.YtecndndpjekjbaaSxSpecTree
import Derived.Test.YtecndndpjekjbaaSxImplTree
import Derived.Test.YtecndndpjekjbaaSxImplTree
import Derived.Test.YtecndndpjekjbaaSxSpecTree
import Derived.Test.YtecndndpjekjbaaSxImplSmall
import Derived.Test.YtecndndpjekjbaaSxSpecL1
import Derived.Test.YtecndndpjekjbaaSxLawsHelp
import Derived.Test.YtecndndpjekjbaaSxLawsHelp
import Derived.Test.YtecndndpjekjbaaSxLawsHelpSS
import Derived.Test.YtecndndpjekjbaaSxImplIsProofY
import Derived.Test.YtecndndpjekjbaaSxSpecL3RightY
import Derived.Test.YtecndndpjekjbaaSxImplPathLength
import Derived.Test.YtecndndpjekjbaaSxSpecPathLength
import Derived.Test.YtecndndpjekjbaaSxImplAreDigestsY
import Derived.Test.YtecndndpjekjbaaSxBytesEqual
import Derived.Lib.Bytes
import Derived.Test.YtecndndpjekjbaaSxSpecSmall
import Derived.Test.YtecndndpjekjbaaSxImplCheckProof
import Derived.Test.YtecndndpjekjbaaSxSpecCheckProof
import Derived.Test.YtecndndpjekjbaaSxSpecSmall
import Derived.Test.YtecndndpjekjbaaSxLawsFnExactCheckProof
import Derived.Test.YtecndndpjekjbaaSxLawsHelpSS
/- The digest and the tagged digest, as plain functions: what the program's and the reference's come to. For all bytes that fit. -/
set_option linter.unusedVariables false
namespace Go.Proofs.Ytecndndpjekjbaa.S
open Go.RowKit Go.Proofs.YtecndndpjekjbaaW.PrintWords Go.Proofs.YtecndndpjekjbaaW.PrintLast Go.Proofs.YtecndndpjekjbaaW.PrintMore Go.Proofs.Ytecndndpjekjbaa.Base Go.Proofs.Ytecndndpjekjbaa.Sha

theorem spec_dig {l : List Int} (hl : Byt l) (hn : l.length < 70000000000000) : spec_Digest.f l = some (sha l) := by
  unfold spec_Digest.f
  refine if_pos ?_
  unfold spec_Digest.ok
  rw [Bool.and_eq_true]
  exact ⟨List.all_eq_true.2 (fun x hx => decide_eq_true (hl x hx)), decide_eq_true hn⟩
theorem impl_dig {ls : List (List Int)} (hl : Byt ls.flatten) (hn : ls.flatten.length < 70000000000000) : impl_digest.f ls = some (sha ls.flatten) := by
  unfold impl_digest.f
  refine if_pos ?_
  unfold impl_digest.ok
  rw [Bool.and_eq_true]
  exact ⟨List.all_eq_true.2 (fun x hx => decide_eq_true (hl x hx)), decide_eq_true hn⟩
/-- The tagged digest. -/
def tg (t : ByteArray) (l : List Int) : List Int := sha ([(t.size : Int) % 256] ++ bytesOf t ++ l)
theorem tg_length (t : ByteArray) (l : List Int) : (tg t l).length = 32 := sha_length _
theorem tg_byt (t : ByteArray) (l : List Int) : Byt (tg t l) := sha_byt _
theorem tg_byt0 {t : ByteArray} {l : List Int} (hl : Byt l) : Byt ([(t.size : Int) % 256] ++ bytesOf t ++ l) :=
  byt_append (byt_append (byt_one (by omega) (by omega)) (bytesOf_byt t)) hl
theorem spec_tag {t : ByteArray} {l : List Int} (hl : Byt l) (hn : t.size + l.length < 60000000000000) : spec_TaggedDigest.f t l = some (tg t l) := by
  unfold spec_TaggedDigest.f
  refine spec_dig (tg_byt0 hl) ?_
  rw [List.length_append, List.length_append, bytesOf_length, List.length_singleton]
  omega
theorem impl_tag {t : ByteArray} {ls : List (List Int)} (hl : Byt ls.flatten) (hn : t.size + ls.flatten.length < 60000000000000) (hc : ls.length < 5000000000000) : impl_tagged.f t ls = some (tg t ls.flatten) := by
  unfold impl_tagged.f
  rw [if_pos (by omega)]
  have e : ([[(t.size : Int) % 256], bytesOf t] ++ ls).flatten = [(t.size : Int) % 256] ++ bytesOf t ++ ls.flatten := by simp
  rw [impl_dig (by rw [e]; exact tg_byt0 hl) (by rw [e, List.length_append, List.length_append, bytesOf_length, List.length_singleton]; omega), e]
  rfl
theorem impl_tag1 {t : ByteArray} {l : List Int} (hl : Byt l) (hn : t.size + l.length < 60000000000000) : impl_tagged.f t [l] = some (tg t l) := by
  have e : [l].flatten = l := by simp
  have h := impl_tag (t := t) (ls := [l]) (by rw [e]; exact hl) (by rw [e]; exact hn) (by simp)
  rw [e] at h
  exact h
theorem impl_tag2 {t : ByteArray} {l m : List Int} (hl : Byt l) (hm : Byt m) (hn : t.size + l.length + m.length < 60000000000000) : impl_tagged.f t [l, m] = some (tg t (l ++ m)) := by
  have e : [l, m].flatten = l ++ m := by simp
  have h := impl_tag (t := t) (ls := [l, m]) (by rw [e]; exact byt_append hl hm) (by rw [e, List.length_append]; omega) (by simp)
  rw [e] at h
  exact h
end Go.Proofs.Ytecndndpjekjbaa.S

/- How a tree is split, and on which side the other parts are: the program's splitAt and sides and the reference's l3Split and l3Sides agree for 1 to 16 leaves. -/
set_option linter.unusedVariables false
namespace Go.Proofs.Ytecndndpjekjbaa.S
open Go.RowKit Go.Proofs.YtecndndpjekjbaaW.PrintWords Go.Proofs.YtecndndpjekjbaaW.PrintLast Go.Proofs.YtecndndpjekjbaaW.PrintMore Go.Proofs.Ytecndndpjekjbaa.Base

def splitV (n : Int) : Int := if n ≤ 2 then 1 else if n ≤ 4 then 2 else if n ≤ 8 then 4 else 8
theorem splitV_range {n : Int} (h : 2 ≤ n) (h1 : n ≤ 16) : 1 ≤ splitV n ∧ splitV n < n ∧ splitV n ≤ 8 ∧ n - splitV n ≤ 8 := by
  unfold splitV
  repeat' split
  all_goals omega
theorem wd (x : Int) (h0 : 0 ≤ x) (h1 : x ≤ 16) : wrap64 (2 * x) = 2 * x := w64 (by omega) (by omega)
theorem wd' (x : Int) (h0 : 0 ≤ x) (h1 : x ≤ 16) : wrap64 (x * 2) = 2 * x := by rw [w64 (by omega) (by omega)]; omega
theorem spec_split_ev {n : Int} (h : 2 ≤ n) (h1 : n ≤ 16) : Ev (fun k => spec_l3Split.f k n) (splitV n) := by
  unfold spec_l3Split.f splitV
  refine ev_step (fun k => spec_l3Split.l0.eq_2 _ _ _) ?_
  rw [wd 1 (by omega) (by omega)]
  by_cases c1 : n ≤ 2
  · rw [if_pos c1]; exact ev_neg (by omega) (ev_now rfl)
  rw [if_neg c1]; refine ev_pos (by omega) ?_
  refine ev_step (fun k => spec_l3Split.l0.eq_2 _ _ _) ?_
  rw [wd (2 * 1) (by omega) (by omega)]
  by_cases c2 : n ≤ 4
  · rw [if_pos c2]; exact ev_neg (by omega) (ev_now rfl)
  rw [if_neg c2]; refine ev_pos (by omega) ?_
  refine ev_step (fun k => spec_l3Split.l0.eq_2 _ _ _) ?_
  rw [wd (2 * (2 * 1)) (by omega) (by omega)]
  by_cases c3 : n ≤ 8
  · rw [if_pos c3]; exact ev_neg (by omega) (ev_now rfl)
  rw [if_neg c3]; refine ev_pos (by omega) ?_
  refine ev_step (fun k => spec_l3Split.l0.eq_2 _ _ _) ?_
  rw [wd (2 * (2 * (2 * 1))) (by omega) (by omega)]
  exact ev_neg (by omega) (ev_now rfl)
theorem impl_split_ev {n : Int} (h : 2 ≤ n) (h1 : n ≤ 16) : Ev (fun k => impl_splitAt.f k n) (splitV n) := by
  unfold impl_splitAt.f splitV
  refine ev_step (fun k => impl_splitAt.l0.eq_2 _ _ _) ?_
  rw [wd 1 (by omega) (by omega), wd' 1 (by omega) (by omega)]
  by_cases c1 : n ≤ 2
  · rw [if_pos c1]; exact ev_neg (by omega) (ev_now rfl)
  rw [if_neg c1]; refine ev_pos (by omega) ?_
  refine ev_step (fun k => impl_splitAt.l0.eq_2 _ _ _) ?_
  rw [wd (2 * 1) (by omega) (by omega), wd' (2 * 1) (by omega) (by omega)]
  by_cases c2 : n ≤ 4
  · rw [if_pos c2]; exact ev_neg (by omega) (ev_now rfl)
  rw [if_neg c2]; refine ev_pos (by omega) ?_
  refine ev_step (fun k => impl_splitAt.l0.eq_2 _ _ _) ?_
  rw [wd (2 * (2 * 1)) (by omega) (by omega), wd' (2 * (2 * 1)) (by omega) (by omega)]
  by_cases c3 : n ≤ 8
  · rw [if_pos c3]; exact ev_neg (by omega) (ev_now rfl)
  rw [if_neg c3]; refine ev_pos (by omega) ?_
  refine ev_step (fun k => impl_splitAt.l0.eq_2 _ _ _) ?_
  rw [wd (2 * (2 * (2 * 1))) (by omega) (by omega)]
  exact ev_neg (by omega) (ev_now rfl)
/-- The sides of the way from leaf p up in a tree of n leaves: true: the other part is on the left. -/
theorem sides_ev : ∀ (m : Nat) (n p : Int), n ≤ m → 1 ≤ n → n ≤ 16 → 0 ≤ p → p < n → ∃ L : List Bool, (L.length : Int) < n ∧ Ev (fun k => impl_sides.f k n p) L ∧ Ev (fun k => spec_l3Sides.f k n p) (L.map not) := by
  intro m
  induction m with
  | zero => intro n p h h1; omega
  | succ m ih =>
    intro n p h h1 h2 hp hq
    by_cases e : n = 1
    · refine ⟨[], by simp; omega, ?_, ?_⟩
      · exact ev_step (fun k => impl_sides.f.eq_2 _ _ _) (ev_pos e (ev_now rfl))
      · exact ev_step (fun k => spec_l3Sides.f.eq_2 _ _ _) (ev_pos (by omega) (ev_now rfl))
    · have hr := splitV_range (n := n) (by omega) h2
      have hs := spec_split_ev (n := n) (by omega) h2
      have hi := impl_split_ev (n := n) (by omega) h2
      generalize splitV n = v at hr hs hi
      by_cases c : p < v
      · obtain ⟨L, l1, l2, l3⟩ := ih v p (by omega) (by omega) (by omega) hp c
        refine ⟨L ++ [false], by simp; omega, ?_, ?_⟩
        · refine ev_step (fun k => impl_sides.f.eq_2 _ _ _) (ev_neg e (ev_bind hi (ev_pos c (ev_bind l2 (ev_pos ?_ (ev_now rfl))))))
          omega
        · refine ev_step (fun k => spec_l3Sides.f.eq_2 _ _ _) (ev_neg (by omega) (ev_bind hs (ev_pos c (ev_bind l3 (ev_pos ?_ (ev_now (by simp)))))))
          rw [List.length_map]; omega
      · obtain ⟨L, l1, l2, l3⟩ := ih (n - v) (p - v) (by omega) (by omega) (by omega) (by omega) (by omega)
        have e1 : wrap64 (n - v) = n - v := w64 (by omega) (by omega)
        have e2 : wrap64 (p - v) = p - v := w64 (by omega) (by omega)
        refine ⟨L ++ [true], by simp; omega, ?_, ?_⟩
        · refine ev_step (fun k => impl_sides.f.eq_2 _ _ _) (ev_neg e (ev_bind hi (ev_neg c ?_)))
          rw [e1, e2]
          exact ev_bind l2 (ev_pos (by omega) (ev_now rfl))
        · refine ev_step (fun k => spec_l3Sides.f.eq_2 _ _ _) (ev_neg (by omega) (ev_bind hs (ev_neg c ?_)))
          rw [e1, e2]
          exact ev_bind l3 (ev_pos (by rw [List.length_map]; omega) (ev_now (by simp)))
end Go.Proofs.Ytecndndpjekjbaa.S

/- The root of a tree of events: what the program's and the reference's come to. For up to 16 events of bytes that fit. -/
set_option linter.unusedVariables false
namespace Go.Proofs.Ytecndndpjekjbaa.S
open Go.RowKit Go.Proofs.YtecndndpjekjbaaW.PrintWords Go.Proofs.YtecndndpjekjbaaW.PrintLast Go.Proofs.YtecndndpjekjbaaW.PrintMore Go.Proofs.Ytecndndpjekjbaa.Base Go.Proofs.Ytecndndpjekjbaa.Sha

def leafV (l : List Int) : List Int := tg (⟨#[108, 101, 97, 102]⟩ : ByteArray) l
def nodeV (l m : List Int) : List Int := tg (⟨#[110, 111, 100, 101]⟩ : ByteArray) (l ++ m)
theorem impl_leaf_eq {l : List Int} (hl : Byt l) (hn : l.length ≤ 4294967296) : impl_LeafDigest.f l = some (leafV l) := by
  have h4 : (⟨#[108, 101, 97, 102]⟩ : ByteArray).size = 4 := rfl
  unfold impl_LeafDigest.f
  rw [impl_tag1 hl (by omega)]
  rfl
theorem spec_leaf_eq {l : List Int} (hl : Byt l) (hn : l.length ≤ 4294967296) : spec_LeafDigest.f l = some (leafV l) := by
  have h4 : (⟨#[108, 101, 97, 102]⟩ : ByteArray).size = 4 := rfl
  unfold spec_LeafDigest.f
  rw [spec_tag hl (by omega)]
  rfl
theorem impl_node_eq {l m : List Int} (hl : Byt l) (hm : Byt m) (hn : l.length ≤ 4294967296) (hn2 : m.length ≤ 4294967296) : impl_NodeDigest.f l m = some (nodeV l m) := by
  have h4 : (⟨#[110, 111, 100, 101]⟩ : ByteArray).size = 4 := rfl
  unfold impl_NodeDigest.f
  rw [impl_tag2 hl hm (by omega)]
  rfl
theorem spec_node_eq {l m : List Int} (hl : Byt l) (hm : Byt m) (hn : l.length ≤ 4294967296) (hn2 : m.length ≤ 4294967296) : spec_NodeDigest.f l m = some (nodeV l m) := by
  have h4 : (⟨#[110, 111, 100, 101]⟩ : ByteArray).size = 4 := rfl
  unfold spec_NodeDigest.f
  simp only [Option.bind_some, List.length_nil, List.nil_append]
  rw [if_pos (show 0 + l.length < 140737488355328 by omega), if_pos (show l.length + m.length < 140737488355328 by omega), spec_tag (byt_append hl hm) (by rw [List.length_append]; omega)]
  rfl
/-- How many of n leaves are on the left. -/
def cutV (n : Nat) : Nat := (splitV (n : Int)).toNat
theorem cutV_cast {n : Nat} (h : 2 ≤ n) (h1 : n ≤ 16) : ((cutV n : Nat) : Int) = splitV (n : Int) := by
  have := splitV_range (n := (n : Int)) (by omega) (by omega)
  unfold cutV
  omega
theorem cutV_range {n : Nat} (h : 2 ≤ n) (h1 : n ≤ 16) : 1 ≤ cutV n ∧ cutV n < n := by
  have := splitV_range (n := (n : Int)) (by omega) (by omega)
  have := cutV_cast h h1
  omega
def rootV : Nat → List (List Int) → List Int
  | 0, _ => []
  | m + 1, ls => if ls.length = 0 then tg (⟨#[110, 111, 110, 101]⟩ : ByteArray) [] else if ls.length = 1 then leafV (ls.getD 0 []) else nodeV (rootV m (ls.take (cutV ls.length))) (rootV m (ls.drop (cutV ls.length)))
/-- Leaves that fit. -/
def Leaves (ls : List (List Int)) : Prop := ls.length ≤ 16 ∧ ∀ l ∈ ls, Byt l ∧ l.length ≤ 4294967296
theorem Leaves.take {ls : List (List Int)} (h : Leaves ls) (n : Nat) : Leaves (ls.take n) := ⟨by have := h.1; rw [List.length_take]; omega, fun l hl => h.2 l (List.mem_of_mem_take hl)⟩
theorem Leaves.drop {ls : List (List Int)} (h : Leaves ls) (n : Nat) : Leaves (ls.drop n) := ⟨by have := h.1; rw [List.length_drop]; omega, fun l hl => h.2 l (List.mem_of_mem_drop hl)⟩
theorem rd_L_zero (ls : List (List Int)) : rd_L1 ls 0 = ls.getD 0 [] := rfl
theorem rootV_ok : ∀ (m : Nat) (ls : List (List Int)), ls.length ≤ m → Byt (rootV (m + 1) ls) ∧ (rootV (m + 1) ls).length = 32 := by
  intro m
  induction m with
  | zero =>
    intro ls h
    unfold rootV
    rw [if_pos (by omega)]
    exact ⟨tg_byt _ _, tg_length _ _⟩
  | succ m ih =>
    intro ls h
    unfold rootV
    split
    · exact ⟨tg_byt _ _, tg_length _ _⟩
    · split
      · exact ⟨tg_byt _ _, tg_length _ _⟩
      · exact ⟨tg_byt _ _, tg_length _ _⟩
theorem root_ev : ∀ (m : Nat) (ls : List (List Int)), ls.length ≤ m → Leaves ls → Ev (fun k => impl_rootOf.f k ls) (rootV (m + 1) ls) ∧ Ev (fun k => spec_l3Root.f k ls) (rootV (m + 1) ls) := by
  intro m
  have h4 : (⟨#[110, 111, 110, 101]⟩ : ByteArray).size = 4 := rfl
  induction m with
  | zero =>
    intro ls h hL
    unfold rootV
    rw [if_pos (by omega)]
    exact ⟨ev_step (fun k => impl_rootOf.f.eq_2 _ _) (ev_pos (by omega) (ev_bind (ev_now (impl_tag (ls := []) byt_nil (by simp only [List.flatten_nil, List.length_nil]; omega) (by simp))) (ev_now rfl))), ev_step (fun k => spec_l3Root.f.eq_2 _ _) (ev_pos (by omega) (ev_bind (ev_now (spec_tag byt_nil (by simp only [List.length_nil]; omega))) (ev_now rfl)))⟩
  | succ m ih =>
    intro ls h hL
    by_cases h0 : ls.length = 0
    · unfold rootV
      rw [if_pos h0]
      exact ⟨ev_step (fun k => impl_rootOf.f.eq_2 _ _) (ev_pos (by omega) (ev_bind (ev_now (impl_tag (ls := []) byt_nil (by simp only [List.flatten_nil, List.length_nil]; omega) (by simp))) (ev_now rfl))), ev_step (fun k => spec_l3Root.f.eq_2 _ _) (ev_pos (by omega) (ev_bind (ev_now (spec_tag byt_nil (by simp only [List.length_nil]; omega))) (ev_now rfl)))⟩
    by_cases h1 : ls.length = 1
    · have hm : ls.getD 0 [] ∈ ls := by
        rw [List.getD_eq_getElem?_getD, List.getElem?_eq_getElem (show 0 < ls.length by omega)]
        exact List.getElem_mem _
      obtain ⟨hy, hn⟩ := hL.2 _ hm
      unfold rootV
      rw [if_neg h0, if_pos h1]
      exact ⟨ev_step (fun k => impl_rootOf.f.eq_2 _ _) (ev_neg (by omega) (ev_pos (by omega) (ev_pos (by omega) (ev_bind (ev_now (impl_leaf_eq hy hn)) (ev_now rfl))))), ev_step (fun k => spec_l3Root.f.eq_2 _ _) (ev_neg (by omega) (ev_pos (by omega) (ev_pos (by omega) (ev_bind (ev_now (spec_leaf_eq hy hn)) (ev_now rfl)))))⟩
    · have hl := hL.1
      have hc := cutV_range (n := ls.length) (by omega) hl
      have hcc := cutV_cast (n := ls.length) (by omega) hl
      have hs := spec_split_ev (n := (ls.length : Int)) (by omega) (by omega)
      have hi := impl_split_ev (n := (ls.length : Int)) (by omega) (by omega)
      rw [← hcc] at hs hi
      unfold rootV
      rw [if_neg h0, if_neg h1]
      generalize cutV ls.length = v at *
      have t1 : (ls.take v).length ≤ m := by rw [List.length_take]; omega
      have t2 : (ls.drop v).length ≤ m := by rw [List.length_drop]; omega
      obtain ⟨a1, a2⟩ := ih (ls.take v) t1 (hL.take v)
      obtain ⟨b1, b2⟩ := ih (ls.drop v) t2 (hL.drop v)
      obtain ⟨c1, c2⟩ := rootV_ok m (ls.take v) t1
      obtain ⟨d1, d2⟩ := rootV_ok m (ls.drop v) t2
      refine ⟨ev_step (fun k => impl_rootOf.f.eq_2 _ _) (ev_neg (by omega) (ev_neg (by omega) (ev_bind hi (ev_pos (by omega) (ev_pos (by omega) ?_))))), ev_step (fun k => spec_l3Root.f.eq_2 _ _) (ev_neg (by omega) (ev_neg (by omega) (ev_bind hs (ev_pos (by omega) (ev_pos (by omega) ?_)))))⟩
      · rw [Int.toNat_natCast]
        exact ev_bind a1 (ev_bind b1 (ev_bind (ev_now (impl_node_eq c1 d1 (by omega) (by omega))) (ev_now rfl)))
      · rw [Int.toNat_natCast]
        exact ev_bind a2 (ev_bind b2 (ev_bind (ev_now (spec_node_eq c1 d1 (by omega) (by omega))) (ev_now rfl)))
def root (ls : List (List Int)) : List Int := rootV 17 ls
theorem impl_root_ev {ls : List (List Int)} (h : Leaves ls) : Ev (fun k => impl_rootOf.f k ls) (root ls) := (root_ev 16 ls h.1 h).1
theorem spec_root_ev {ls : List (List Int)} (h : Leaves ls) : Ev (fun k => spec_l3Root.f k ls) (root ls) := (root_ev 16 ls h.1 h).2
theorem root_byt {ls : List (List Int)} (h : ls.length ≤ 16) : Byt (root ls) := (rootV_ok 16 ls h).1
theorem root_length {ls : List (List Int)} (h : ls.length ≤ 16) : (root ls).length = 32 := (rootV_ok 16 ls h).2
end Go.Proofs.Ytecndndpjekjbaa.S

/- Is a number in its bounds: the program's and the reference's answer. -/
set_option linter.unusedVariables false
namespace Go.Proofs.Ytecndndpjekjbaa.S
open Go.RowKit Go.Proofs.YtecndndpjekjbaaW.PrintWords Go.Proofs.YtecndndpjekjbaaW.PrintLast Go.Proofs.YtecndndpjekjbaaW.PrintMore Go.Proofs.Ytecndndpjekjbaa.Base

theorem in_eq (a b c : Int) : impl_in.f a b c = some (decide (b ≤ a ∧ a ≤ c)) := by
  unfold impl_in.f
  by_cases h : b ≤ a <;> simp [h]
theorem l1In_eq (a b c : Int) : spec_l1In.f a b c = some (decide (b ≤ a ∧ a ≤ c)) := by
  unfold spec_l1In.f
  by_cases h : b ≤ a <;> simp [h]
end Go.Proofs.Ytecndndpjekjbaa.S

/- What the laws' own helpers on byte slices come to: toByteS copies, eqByteS compares, markByteS and heldByteS count alike. For every slice that fits memory. -/
set_option linter.unusedVariables false
namespace Go.Proofs.Ytecndndpjekjbaa.S
open Go.RowKit Go.Proofs.YtecndndpjekjbaaW.PrintWords Go.Proofs.YtecndndpjekjbaaW.PrintLast Go.Proofs.YtecndndpjekjbaaW.PrintMore Go.Proofs.Ytecndndpjekjbaa.Base

theorem toByteS_l0 (l : List Int) (hl : l.length ≤ 281474976710656) : ∀ (d : Nat) (x : List Int) (i : Nat), i + d = l.length → x.length = l.length → (∀ j, j < i → x[j]? = l[j]?) → Ev (fun k => laws_toByteS.l0 k l x (i : Int)) l := by
  intro d
  induction d with
  | zero =>
    intro x i hi hx hj
    refine ev_step (fun k => laws_toByteS.l0.eq_2 _ _ _ _) ?_
    refine ev_neg (by omega) ?_
    rw [fill_all hx (fun j h => hj j (by omega))]
    exact ev_now rfl
  | succ d ih =>
    intro x i hi hx hj
    refine ev_step (fun k => laws_toByteS.l0.eq_2 _ _ _ _) ?_
    refine ev_pos (by omega) ?_
    refine ev_pos (by omega) ?_
    refine ev_pos (by omega) ?_
    rw [w64s (by omega), Int.toNat_natCast]
    exact ih _ (i + 1) (by omega) (by rw [List.length_set]; exact hx) (fill_step (by omega) hx hj)
theorem toByteS_ev (l : List Int) (hl : l.length ≤ 281474976710656) : Ev (fun k => laws_toByteS.f k l) l := by
  unfold laws_toByteS.f
  refine ev_pos (by omega) ?_
  refine ev_pos (by omega) ?_
  exact toByteS_l0 l hl l.length _ 0 (by omega) (by simp) (fun j h => by omega)
theorem eqByteS_l0 (l : List Int) (hl : l.length ≤ 281474976710656) : ∀ (d i : Nat), i + d = l.length → Ev (fun k => laws_eqByteS.l0 k l l (i : Int)) true := by
  intro d
  induction d with
  | zero =>
    intro i hi
    refine ev_step (fun k => laws_eqByteS.l0.eq_2 _ _ _ _) ?_
    refine ev_neg (by omega) ?_
    exact ev_now rfl
  | succ d ih =>
    intro i hi
    refine ev_step (fun k => laws_eqByteS.l0.eq_2 _ _ _ _) ?_
    refine ev_pos (by omega) ?_
    refine ev_pos (by omega) ?_
    refine ev_pos (by omega) ?_
    refine ev_pos rfl ?_
    rw [w64s (by omega)]
    exact ih (i + 1) (by omega)
theorem eqByteS_ev (l : List Int) (hl : l.length ≤ 281474976710656) : Ev (fun k => laws_eqByteS.f k l l) true := by
  unfold laws_eqByteS.f
  refine ev_pos rfl ?_
  exact eqByteS_l0 l hl l.length 0 (by omega)
end Go.Proofs.Ytecndndpjekjbaa.S

/- How many places are left behind a slice of bytes. -/
set_option linter.unusedVariables false
namespace Go.Proofs.Ytecndndpjekjbaa.S
open Go.RowKit Go.Proofs.YtecndndpjekjbaaW.PrintWords Go.Proofs.YtecndndpjekjbaaW.PrintLast Go.Proofs.YtecndndpjekjbaaW.PrintMore Go.Proofs.Ytecndndpjekjbaa.Base

def szV (n : Nat) (a : Int) : Int := if a - n < 0 then -1 else a - n
theorem szByteS_eq (l : List Int) (a : Int) (hl : l.length ≤ 9223372036854775807) (h0 : 0 ≤ a) (h1 : a ≤ 1048576) : laws_szByteS.f l a = some (szV l.length a) := by
  unfold laws_szByteS.f szV
  rw [w64 (by omega) (by omega)]
  split <;> rfl
theorem szV_range {n : Nat} {a : Int} (h : ¬ szV n a < 0) : (n : Int) ≤ a ∧ szV n a = a - n := by
  unfold szV at h ⊢
  split at h
  · omega
  · rename_i g
    rw [if_neg g]
    exact ⟨by omega, rfl⟩
end Go.Proofs.Ytecndndpjekjbaa.S

/- What the laws' helpers on slices of byte slices come to: a copy, a comparison, a size. For all that fit memory. -/
set_option linter.unusedVariables false
namespace Go.Proofs.Ytecndndpjekjbaa.S
open Go.RowKit Go.Proofs.YtecndndpjekjbaaW.PrintWords Go.Proofs.YtecndndpjekjbaaW.PrintLast Go.Proofs.YtecndndpjekjbaaW.PrintMore Go.Proofs.Ytecndndpjekjbaa.Base

theorem rdLL (ls : List (List Int)) (i : Nat) (h : i < ls.length) : rd_L1 ls (i : Int) = ls[i] := by
  unfold rd_L1
  simp [List.getD_eq_getElem?_getD, List.getElem?_eq_getElem h]
theorem toByteSS_l0 (ls : List (List Int)) (hl : ls.length ≤ 11728124029610) (hi : ∀ l ∈ ls, l.length ≤ 281474976710656) : ∀ (d : Nat) (x : List (List Int)) (i : Nat), i + d = ls.length → x.length = ls.length → (∀ j, j < i → x[j]? = ls[j]?) → Ev (fun k => laws_toByteSS.l0 k ls x (i : Int)) ls := by
  intro d
  induction d with
  | zero =>
    intro x i h hx hj
    refine ev_step (fun k => laws_toByteSS.l0.eq_2 _ _ _ _) (ev_neg (by omega) ?_)
    rw [fill_all hx (fun j h => hj j (by omega))]
    exact ev_now rfl
  | succ d ih =>
    intro x i h hx hj
    have hlt : i < ls.length := by omega
    refine ev_step (fun k => laws_toByteSS.l0.eq_2 _ _ _ _) (ev_pos (by omega) (ev_pos (by omega) ?_))
    rw [rdLL ls i hlt]
    refine ev_bind (toByteS_ev ls[i] (hi _ (List.getElem_mem _))) (ev_pos (by omega) ?_)
    rw [w64s (by omega), Int.toNat_natCast]
    refine ih _ (i + 1) (by omega) (by rw [List.length_set]; exact hx) (fun j hj' => ?_)
    rw [List.getElem?_set]
    by_cases e : i = j
    · subst e
      rw [if_pos rfl, if_pos (by omega), List.getElem?_eq_getElem hlt]
    · rw [if_neg e]
      exact hj j (by omega)
theorem toByteSS_ev (ls : List (List Int)) (hl : ls.length ≤ 11728124029610) (hi : ∀ l ∈ ls, l.length ≤ 281474976710656) : Ev (fun k => laws_toByteSS.f k ls) ls := by
  unfold laws_toByteSS.f
  exact ev_pos (by omega) (ev_pos (by omega) (toByteSS_l0 ls hl hi ls.length _ 0 (by omega) (by simp) (fun j h => by omega)))
theorem eqByteSS_l0 (ls : List (List Int)) (hl : ls.length ≤ 11728124029610) (hi : ∀ l ∈ ls, l.length ≤ 281474976710656) : ∀ (d i : Nat), i + d = ls.length → Ev (fun k => laws_eqByteSS.l0 k ls ls (i : Int)) true := by
  intro d
  induction d with
  | zero =>
    intro i h
    exact ev_step (fun k => laws_eqByteSS.l0.eq_2 _ _ _ _) (ev_neg (by omega) (ev_now rfl))
  | succ d ih =>
    intro i h
    have hlt : i < ls.length := by omega
    refine ev_step (fun k => laws_eqByteSS.l0.eq_2 _ _ _ _) (ev_pos (by omega) (ev_pos (by omega) (ev_pos (by omega) ?_)))
    rw [rdLL ls i hlt]
    refine ev_bind (eqByteS_ev ls[i] (hi _ (List.getElem_mem _))) (ev_pos rfl ?_)
    rw [w64s (by omega)]
    exact ih (i + 1) (by omega)
theorem eqByteSS_ev (ls : List (List Int)) (hl : ls.length ≤ 11728124029610) (hi : ∀ l ∈ ls, l.length ≤ 281474976710656) : Ev (fun k => laws_eqByteSS.f k ls ls) true := by
  unfold laws_eqByteSS.f
  exact ev_pos rfl (eqByteSS_l0 ls hl hi ls.length 0 (by omega))
theorem szByteSS_l0 (ls : List (List Int)) (hi : ∀ l ∈ ls, l.length ≤ 9223372036854775807) : ∀ (d i : Nat) (a : Int), i + d = ls.length → i ≤ 1048576 → ls.length ≤ 1048576 → 0 ≤ a → a ≤ 1048576 → ∃ r, Ev (fun k => laws_szByteSS.l0 k ls a (i : Int)) r ∧ r ≤ a ∧ (¬ r < 0 → ((ls.drop i).flatten.length : Int) + r = a) := by
  intro d
  induction d with
  | zero =>
    intro i a h _ _ ha hb
    refine ⟨a, ev_step (fun k => laws_szByteSS.l0.eq_2 _ _ _ _) (ev_neg (by omega) (ev_now rfl)), by omega, fun _ => ?_⟩
    rw [List.drop_of_length_le (by omega)]
    simp
  | succ d ih =>
    intro i a h h1 h2 ha hb
    have hlt : i < ls.length := by omega
    have e1 : (ls.drop i).flatten.length = ls[i].length + (ls.drop (i + 1)).flatten.length := by
      rw [List.drop_eq_getElem_cons hlt, List.flatten_cons, List.length_append]
    have hs := szByteS_eq ls[i] a (hi _ (List.getElem_mem _)) ha hb
    by_cases c : szV ls[i].length a < 0
    · refine ⟨-1, ev_step (fun k => laws_szByteSS.l0.eq_2 _ _ _ _) (ev_pos (by omega) (ev_pos (by omega) ?_)), by omega, fun g => absurd (by omega) g⟩
      rw [rdLL ls i hlt]
      exact ev_bind (ev_now hs) (ev_pos c (ev_now rfl))
    · obtain ⟨g1, g2⟩ := szV_range c
      obtain ⟨r, hr, hra, hrz⟩ := ih (i + 1) (szV ls[i].length a) (by omega) (by omega) h2 (by omega) (by omega)
      refine ⟨r, ev_step (fun k => laws_szByteSS.l0.eq_2 _ _ _ _) (ev_pos (by omega) (ev_pos (by omega) ?_)), by omega, fun g => ?_⟩
      · rw [rdLL ls i hlt]
        refine ev_bind (ev_now hs) (ev_neg c ?_)
        rw [w64s (by omega)]
        exact hr
      · have := hrz g
        rw [e1]
        omega
theorem szByteSS_ex (ls : List (List Int)) (hl : ls.length ≤ 9223372036854775807) (hi : ∀ l ∈ ls, l.length ≤ 9223372036854775807) (a : Int) (ha : 0 ≤ a) (hb : a ≤ 1048576) : ∃ r, Ev (fun k => laws_szByteSS.f k ls a) r ∧ r ≤ a ∧ (¬ r < 0 → (ls.length : Int) + (ls.flatten.length : Int) + r = a) := by
  unfold laws_szByteSS.f
  rw [w64 (by omega) (by omega)]
  by_cases c : a - (ls.length : Int) < 0
  · exact ⟨-1, ev_pos c (ev_now rfl), by omega, fun g => absurd (by omega) g⟩
  · obtain ⟨r, hr, hra, hrz⟩ := szByteSS_l0 ls hi ls.length 0 (a - (ls.length : Int)) (by omega) (by omega) (by omega) (by omega) (by omega)
    refine ⟨r, ev_neg c hr, by omega, fun g => ?_⟩
    have := hrz g
    rw [List.drop_zero] at this
    omega
theorem mem_flat {ls : List (List Int)} {l : List Int} (h : l ∈ ls) : l.length ≤ ls.flatten.length := by
  induction ls with
  | nil => cases h
  | cons x ls ih =>
    rw [List.flatten_cons, List.length_append]
    rcases List.mem_cons.1 h with rfl | h
    · omega
    · have := ih h
      omega
end Go.Proofs.Ytecndndpjekjbaa.S

/- Proofs: when one has its form, and what it climbs to: what the program's and the reference's come to. For all that fit. -/
set_option linter.unusedVariables false
namespace Go.Proofs.Ytecndndpjekjbaa.S
open Go.RowKit Go.Proofs.YtecndndpjekjbaaW.PrintWords Go.Proofs.YtecndndpjekjbaaW.PrintLast Go.Proofs.YtecndndpjekjbaaW.PrintMore Go.Proofs.Ytecndndpjekjbaa.Base Go.Proofs.Ytecndndpjekjbaa.Sha

/-- A place in a tree. -/
def Placed (n p : Int) : Prop := (1 ≤ n ∧ n ≤ 16) ∧ (0 ≤ p ∧ p < n)
instance (n p : Int) : Decidable (Placed n p) := by unfold Placed; infer_instance
/-- The sides, by the reference's own words; of a place that is none, none. -/
theorem sides_ex (n p : Int) (h : Placed n p) : ∃ L : List Bool, (L.length : Int) < 16 ∧ Ev (fun k => impl_sides.f k n p) L ∧ Ev (fun k => spec_l3Sides.f k n p) (L.map not) := by
  obtain ⟨L, h1, h2, h3⟩ := sides_ev 16 n p h.1.2 h.1.1 h.1.2 h.2.1 h.2.2
  have := h.1.2
  exact ⟨L, by omega, h2, h3⟩
theorem impl_pathLength_ev (n p : Int) (L : List Bool) (h : Placed n p → Ev (fun k => impl_sides.f k n p) L) : Ev (fun k => impl_PathLength.f k n p) (if Placed n p then (0, (L.length : Int)) else (3, 0)) := by
  unfold impl_PathLength.f
  refine ev_bind (ev_now (in_eq _ _ _)) ?_
  by_cases h1 : 1 ≤ n ∧ n ≤ 16
  · refine ev_pos (decide_eq_true h1) ?_
    rw [w64 (n := n - 1) (by omega) (by omega)]
    refine ev_bind (ev_now (in_eq _ _ _)) ?_
    by_cases h2 : 0 ≤ p ∧ p ≤ n - 1
    · have hp : Placed n p := ⟨h1, h2.1, by omega⟩
      rw [if_pos hp]
      exact ev_pos (decide_eq_true h2) (ev_bind (h hp) (ev_now rfl))
    · rw [if_neg (fun hp : Placed n p => h2 ⟨hp.2.1, by have := hp.2.2; omega⟩)]
      exact ev_neg (fun g => h2 (of_decide_eq_true g)) (ev_now rfl)
  · rw [if_neg (fun hp : Placed n p => h1 hp.1)]
    exact ev_neg (fun g => h1 (of_decide_eq_true g)) (ev_now rfl)
theorem spec_pathLength_ev (n p : Int) (L : List Bool) (h : Placed n p → Ev (fun k => spec_l3Sides.f k n p) (L.map not)) : Ev (fun k => spec_PathLength.f k n p) (if Placed n p then (0, (L.length : Int)) else (3, 0)) := by
  unfold spec_PathLength.f
  refine ev_bind (ev_now (l1In_eq _ _ _)) ?_
  by_cases h1 : 1 ≤ n ∧ n ≤ 16
  · refine ev_pos (decide_eq_true h1) ?_
    rw [w64 (n := n - 1) (by omega) (by omega)]
    refine ev_bind (ev_now (l1In_eq _ _ _)) ?_
    by_cases h2 : 0 ≤ p ∧ p ≤ n - 1
    · have hp : Placed n p := ⟨h1, h2.1, by omega⟩
      rw [if_pos hp]
      exact ev_pos (decide_eq_true h2) (ev_bind (h hp) (ev_now (by rw [List.length_map])))
    · rw [if_neg (fun hp : Placed n p => h2 ⟨hp.2.1, by have := hp.2.2; omega⟩)]
      exact ev_neg (fun g => h2 (of_decide_eq_true g)) (ev_now rfl)
  · rw [if_neg (fun hp : Placed n p => h1 hp.1)]
    exact ev_neg (fun g => h1 (of_decide_eq_true g)) (ev_now rfl)
/-- All of 32 bytes. -/
def All32 (ls : List (List Int)) : Prop := ∀ l ∈ ls, l.length = 32
instance (ls : List (List Int)) : Decidable (All32 ls) := by unfold All32; infer_instance
theorem areDigests_eq (ls : List (List Int)) : impl_areDigests.f ls = some (decide (All32 ls)) := by
  unfold impl_areDigests.f
  congr 1
  rw [Bool.eq_iff_iff, List.all_eq_true, decide_eq_true_iff]
  unfold All32
  constructor
  · intro h l hl
    have := beq_iff_eq.1 (h l hl)
    omega
  · intro h l hl
    exact beq_iff_eq.2 (by have := h l hl; omega)
theorem l3Right_l0 (ls : List (List Int)) (hl : ls.length ≤ 11728124029610) (a b : Int) : ∀ (d i : Nat), i + d = ls.length → Ev (fun k => spec_l3Right.l0 k (i : Int) a b ls) (decide (All32 (ls.drop i))) := by
  intro d
  induction d with
  | zero =>
    intro i h
    rw [List.drop_of_length_le (by omega), decide_eq_true (show All32 [] from fun l hl => by cases hl)]
    exact ev_step (fun k => spec_l3Right.l0.eq_2 _ _ _ _ _) (ev_neg (by omega) (ev_now rfl))
  | succ d ih =>
    intro i h
    have hlt : i < ls.length := by omega
    refine ev_step (fun k => spec_l3Right.l0.eq_2 _ _ _ _ _) (ev_pos (by omega) (ev_pos (by omega) ?_))
    rw [rdLL ls i hlt]
    by_cases g : ls[i].length = 32
    · refine ev_pos (by omega) ?_
      rw [w64s (by omega)]
      refine ev_eq (ih (i + 1) (by omega)) ?_
      rw [Bool.eq_iff_iff, decide_eq_true_iff, decide_eq_true_iff, List.drop_eq_getElem_cons hlt]
      unfold All32
      constructor
      · intro hh l hl
        rcases List.mem_cons.1 hl with rfl | hl
        · exact g
        · exact hh l hl
      · intro hh l hl
        exact hh l (List.mem_cons_of_mem _ hl)
    · refine ev_neg (by omega) (ev_now ?_)
      rw [decide_eq_false]
      rw [List.drop_eq_getElem_cons hlt]
      exact fun hh => g (hh _ List.mem_cons_self)
/-- A proof of the right form: its place, its length, its parts. -/
def Right (n p : Int) (L : List Bool) (ls : List (List Int)) : Prop := Placed n p ∧ ls.length = L.length ∧ All32 ls
instance (n p : Int) (L : List Bool) (ls : List (List Int)) : Decidable (Right n p L ls) := by unfold Right; infer_instance
theorem impl_isProof_ev (n p : Int) (L : List Bool) (h : Placed n p → Ev (fun k => impl_sides.f k n p) L) (ls : List (List Int)) : Ev (fun k => impl_isProof.f k p n ls) (decide (Right n p L ls)) := by
  unfold impl_isProof.f
  refine ev_bind (impl_pathLength_ev n p L h) ?_
  by_cases hp : Placed n p
  · rw [if_pos hp]
    refine ev_pos rfl ?_
    by_cases hl : ls.length = L.length
    · refine ev_pos (show (L.length : Int) = (ls.length : Int) by omega) (ev_bind (ev_now (areDigests_eq ls)) (ev_now ?_))
      congr 1
      rw [Bool.eq_iff_iff, decide_eq_true_iff, decide_eq_true_iff]
      exact ⟨fun g => ⟨hp, hl, g⟩, fun g => g.2.2⟩
    · exact ev_neg (show ¬ (L.length : Int) = (ls.length : Int) by omega) (ev_now (by rw [decide_eq_false (fun g : Right n p L ls => hl g.2.1)]))
  · rw [if_neg hp]
    exact ev_neg (show ¬ (3 : Int) = 0 by decide) (ev_now (by rw [decide_eq_false (fun g : Right n p L ls => hp g.1)]))
theorem spec_right_ev (n p : Int) (L : List Bool) (h : Placed n p → Ev (fun k => spec_l3Sides.f k n p) (L.map not)) (ls : List (List Int)) (hl : ls.length ≤ 11728124029610) : Ev (fun k => spec_l3Right.f k p n ls) (decide (Right n p L ls)) := by
  unfold spec_l3Right.f
  refine ev_bind (spec_pathLength_ev n p L h) ?_
  by_cases hp : Placed n p
  · rw [if_pos hp]
    refine ev_pos rfl (ev_step (fun k => spec_l3Right.j0.eq_2 _ _ _ _ _) ?_)
    by_cases hl2 : ls.length = L.length
    · refine ev_neg (show ¬ ((ls.length : Int) != (L.length : Int)) = true by simp [hl2]) ?_
      refine ev_eq (l3Right_l0 ls hl p n ls.length 0 (by omega)) ?_
      rw [List.drop_zero, Bool.eq_iff_iff, decide_eq_true_iff, decide_eq_true_iff]
      exact ⟨fun g => ⟨hp, hl2, g⟩, fun g => g.2.2⟩
    · exact ev_pos (show ((ls.length : Int) != (L.length : Int)) = true from bne_iff_ne.2 (by omega)) (ev_now (by rw [decide_eq_false (fun g : Right n p L ls => hl2 g.2.1)]))
  · rw [if_neg hp]
    exact ev_neg (show ¬ (3 : Int) = 0 by decide) (ev_step (fun k => spec_l3Right.j0.eq_2 _ _ _ _ _) (ev_pos rfl (ev_now (by rw [decide_eq_false (fun g : Right n p L ls => hp g.1)]))))
end Go.Proofs.Ytecndndpjekjbaa.S

/- bytes.Equal: whether two lists of bytes are the same. -/
set_option linter.unusedVariables false
namespace Go.Proofs.Ytecndndpjekjbaa.S
open Go.RowKit Go.Proofs.YtecndndpjekjbaaW.PrintWords Go.Proofs.YtecndndpjekjbaaW.PrintLast Go.Proofs.YtecndndpjekjbaaW.PrintMore Go.Proofs.Ytecndndpjekjbaa.Base
theorem equal_eq {a b : List Int} (ha : Byt a) (hb : Byt b) : bytes_Equal.f a b = some (decide (a = b)) := by
  unfold bytes_Equal.f
  congr 1
  rw [Lib.strOfNums_toList, Lib.strOfNums_toList, Bool.eq_iff_iff, beq_iff_eq, decide_eq_true_iff]
  constructor
  · intro h
    refine strOfNums_inj ha hb ?_
    have h2 := congrArg List.toArray h
    exact h2
  · intro h; rw [h]
end Go.Proofs.Ytecndndpjekjbaa.S

/- What the reference's CompareBytes comes to: the order of the first unlike bytes, else of the lengths. For all slices that fit memory. -/
set_option linter.unusedVariables false
namespace Go.Proofs.Ytecndndpjekjbaa.S
open Go.RowKit Go.Proofs.YtecndndpjekjbaaW.PrintWords Go.Proofs.YtecndndpjekjbaaW.PrintLast Go.Proofs.YtecndndpjekjbaaW.PrintMore Go.Proofs.Ytecndndpjekjbaa.Base

def cmpL : List Int → List Int → Int
  | [], [] => 0
  | [], _ :: _ => -1
  | _ :: _, [] => 1
  | x :: a, y :: b => if x < y then -1 else if y < x then 1 else cmpL a b
theorem cmpL_zero : ∀ a b : List Int, cmpL a b = 0 ↔ a = b
  | [], [] => by simp [cmpL]
  | [], _ :: _ => by simp [cmpL]
  | _ :: _, [] => by simp [cmpL]
  | x :: a, y :: b => by
    have ih := cmpL_zero a b
    unfold cmpL
    by_cases h : x < y
    · rw [if_pos h]; simp; intro e; omega
    · rw [if_neg h]
      by_cases h2 : y < x
      · rw [if_pos h2]; simp; intro e; omega
      · rw [if_neg h2, ih]
        have : x = y := by omega
        simp [this]
theorem compareBytes_l0 (a b : List Int) (ha : a.length ≤ 281474976710656) (hb : b.length ≤ 281474976710656) : ∀ (d i : Nat), i + d = a.length → i ≤ b.length → Ev (fun k => spec_CompareBytes.l0 k a b (i : Int)) (cmpL (a.drop i) (b.drop i)) := by
  intro d
  induction d with
  | zero =>
    intro i hi hj
    rw [List.drop_of_length_le (l := a) (by omega)]
    refine ev_step (fun k => spec_CompareBytes.l0.eq_2 _ _ _ _) (ev_neg (by omega) ?_)
    refine ev_step (fun k => spec_CompareBytes.j1.eq_2 _ _ _ _ _) (ev_neg (by simp) ?_)
    by_cases h : (a.length : Int) < (b.length : Int)
    · refine ev_pos h ?_
      rw [List.drop_eq_getElem_cons (l := b) (i := i) (by omega)]
      exact ev_now rfl
    · refine ev_neg h (ev_neg (by omega) ?_)
      rw [List.drop_of_length_le (l := b) (by omega)]
      exact ev_now rfl
  | succ d ih =>
    intro i hi hj
    refine ev_step (fun k => spec_CompareBytes.l0.eq_2 _ _ _ _) (ev_pos (by omega) ?_)
    refine ev_step (fun k => spec_CompareBytes.j1.eq_2 _ _ _ _ _) ?_
    rw [List.drop_eq_getElem_cons (l := a) (i := i) (by omega)]
    by_cases h : (i : Int) < (b.length : Int)
    · refine ev_pos (by simpa using h) (ev_pos (by omega) (ev_pos (by omega) (ev_pos h ?_)))
      rw [List.drop_eq_getElem_cons (l := b) (i := i) (by omega), rd_nat a i (by omega), rd_nat b i (by omega)]
      unfold cmpL
      by_cases h1 : a[i] < b[i]
      · rw [if_pos h1]; exact ev_pos h1 (ev_now rfl)
      · rw [if_neg h1]
        refine ev_neg h1 ?_
        by_cases h2 : b[i] < a[i]
        · rw [if_pos h2]; exact ev_pos h2 (ev_now rfl)
        · rw [if_neg h2]
          refine ev_neg h2 ?_
          rw [w64s (by omega)]
          exact ih (i + 1) (by omega) (by omega)
    · refine ev_neg (by simpa using h) ?_
      rw [List.drop_of_length_le (l := b) (by omega)]
      exact ev_neg (by omega) (ev_pos (by omega) (ev_now rfl))
theorem compareBytes_ev (a b : List Int) (ha : a.length ≤ 281474976710656) (hb : b.length ≤ 281474976710656) : Ev (fun k => spec_CompareBytes.f k a b) (cmpL a b) :=
  compareBytes_l0 a b ha hb a.length 0 (by omega) (by omega)
end Go.Proofs.Ytecndndpjekjbaa.S

/- CheckProof: what the program's and the reference's come to. For all that fit. -/
set_option linter.unusedVariables false
namespace Go.Proofs.Ytecndndpjekjbaa.S
open Go.RowKit Go.Proofs.YtecndndpjekjbaaW.PrintWords Go.Proofs.YtecndndpjekjbaaW.PrintLast Go.Proofs.YtecndndpjekjbaaW.PrintMore Go.Proofs.Ytecndndpjekjbaa.Base Go.Proofs.Ytecndndpjekjbaa.Sha

/-- What a digest climbs to beside others. -/
def upV : List (Bool × List Int) → List Int → List Int
  | [], own => own
  | (b, p) :: r, own => upV r (if b = true then nodeV p own else nodeV own p)
theorem nodeV_byt (l m : List Int) : Byt (nodeV l m) := tg_byt _ _
theorem nodeV_length (l m : List Int) : (nodeV l m).length = 32 := tg_length _ _
theorem leafV_byt (l : List Int) : Byt (leafV l) := tg_byt _ _
theorem leafV_length (l : List Int) : (leafV l).length = 32 := tg_length _ _
theorem upV_ok : ∀ (r : List (Bool × List Int)) {own : List Int}, Byt own → own.length = 32 → Byt (upV r own) ∧ (upV r own).length = 32
  | [], _, h, hl => ⟨h, hl⟩
  | (b, p) :: r, own, h, hl => by
    unfold upV
    refine upV_ok r ?_ ?_
    · split <;> exact nodeV_byt _ _
    · split <;> exact nodeV_length _ _
theorem same_ev {a b : List Int} (ha : a.length ≤ 281474976710656) (hb : b.length ≤ 281474976710656) : Ev (fun k => spec_SameBytes.f k a b) (decide (a = b)) := by
  unfold spec_SameBytes.f
  refine ev_bind (compareBytes_ev a b ha hb) (ev_now ?_)
  congr 1
  rw [Bool.eq_iff_iff, beq_iff_eq, decide_eq_true_iff]
  exact cmpL_zero a b
theorem rdB (L : List Bool) (i : Nat) (h : i < L.length) : rdOf false L (i : Int) = L[i] := by
  unfold rdOf
  simp [List.getD_eq_getElem?_getD, List.getElem?_eq_getElem h]
theorem zip_drop (L : List Bool) (ls : List (List Int)) (i : Nat) (h : i < L.length) (hl : ls.length = L.length) : (L.zip ls).drop i = (L[i], ls[i]) :: (L.zip ls).drop (i + 1) := by
  rw [List.drop_eq_getElem_cons (by rw [List.length_zip]; omega), List.getElem_zip]
theorem check_l0 (root : List Int) (hr : Byt root) (L : List Bool) (ls : List (List Int)) (hlen : L.length ≤ 1000) (hl : ls.length = L.length) (hb : ∀ l ∈ ls, Byt l ∧ l.length = 32) (p n : Int) : ∀ (d i : Nat) (own : List Int), i + d = L.length → Byt own → own.length = 32 →
    Ev (fun k => impl_CheckProof.l0 k root own L (L.length : Int) (i : Int) p n ls) (decide (upV ((L.zip ls).drop i) own = root)) := by
  intro d
  induction d with
  | zero =>
    intro i own h ho hol
    rw [List.drop_of_length_le (by rw [List.length_zip]; omega)]
    exact ev_step (fun k => impl_CheckProof.l0.eq_2 _ _ _ _ _ _ _ _ _) (ev_neg (by omega) (ev_bind (ev_now (equal_eq ho hr)) (ev_now rfl)))
  | succ d ih =>
    intro i own h ho hol
    have hlt : i < L.length := by omega
    have hp := hb ls[i] (List.getElem_mem _)
    refine ev_step (fun k => impl_CheckProof.l0.eq_2 _ _ _ _ _ _ _ _ _) (ev_pos (by omega) (ev_pos (by omega) (ev_pos (by omega) ?_)))
    rw [rdB L i hlt, rdLL ls i (by omega), w64s (by omega), zip_drop L ls i hlt hl]
    unfold upV
    by_cases g : L[i] = true
    · rw [if_pos g]
      exact ev_pos g (ev_pos (by omega) (ev_bind (ev_now (impl_node_eq hp.1 ho (by omega) (by omega))) (ih (i + 1) _ (by omega) (nodeV_byt _ _) (nodeV_length _ _))))
    · rw [if_neg g]
      exact ev_neg g (ev_pos (by omega) (ev_bind (ev_now (impl_node_eq ho hp.1 (by omega) (by omega))) (ih (i + 1) _ (by omega) (nodeV_byt _ _) (nodeV_length _ _))))
theorem spec_check_l0 (root : List Int) (hr : root.length ≤ 281474976710656) (L : List Bool) (ls : List (List Int)) (hlen : L.length ≤ 1000) (hl : ls.length = L.length) (hb : ∀ l ∈ ls, Byt l ∧ l.length = 32) (p n : Int) : ∀ (d i : Nat) (own : List Int), i + d = L.length → Byt own → own.length = 32 →
    Ev (fun k => spec_CheckProof.l0 k root own (L.map not) (i : Int) p n ls) (decide (upV ((L.zip ls).drop i) own = root)) := by
  intro d
  induction d with
  | zero =>
    intro i own h ho hol
    rw [List.drop_of_length_le (by rw [List.length_zip]; omega)]
    exact ev_step (fun k => spec_CheckProof.l0.eq_2 _ _ _ _ _ _ _ _) (ev_neg (by rw [List.length_map]; omega) (ev_bind (same_ev (by omega) hr) (ev_now rfl)))
  | succ d ih =>
    intro i own h ho hol
    have hlt : i < L.length := by omega
    have hp := hb ls[i] (List.getElem_mem _)
    refine ev_step (fun k => spec_CheckProof.l0.eq_2 _ _ _ _ _ _ _ _) (ev_pos (by rw [List.length_map]; omega) (ev_pos (by omega) ?_))
    rw [rdB (L.map not) i (by rw [List.length_map]; exact hlt), rdLL ls i (by omega), w64s (by omega), zip_drop L ls i hlt hl, List.getElem_map]
    unfold upV
    by_cases g : L[i] = true
    · rw [if_pos g]
      exact ev_neg (by rw [g]; decide) (ev_pos (by omega) (ev_bind (ev_now (spec_node_eq hp.1 ho (by omega) (by omega))) (ih (i + 1) _ (by omega) (nodeV_byt _ _) (nodeV_length _ _))))
    · rw [if_neg g]
      exact ev_pos (by simp [g]) (ev_pos (by omega) (ev_bind (ev_now (spec_node_eq ho hp.1 (by omega) (by omega))) (ih (i + 1) _ (by omega) (nodeV_byt _ _) (nodeV_length _ _))))
def checkV (root data : List Int) (n p : Int) (L : List Bool) (ls : List (List Int)) : Bool := if Right n p L ls then decide (upV (L.zip ls) (leafV data) = root) else false
theorem right_mem {n p : Int} {L : List Bool} {ls : List (List Int)} (h : Right n p L ls) (hb : ∀ l ∈ ls, Byt l) : ∀ l ∈ ls, Byt l ∧ l.length = 32 := fun l hl => ⟨hb l hl, h.2.2 l hl⟩
theorem impl_CheckProof_ev {root data : List Int} (hr : Byt root) (hd : Byt data) (hdl : data.length ≤ 4294967296) (n p : Int) (L : List Bool) (hL : L.length ≤ 1000) (h : Placed n p → Ev (fun k => impl_sides.f k n p) L) (ls : List (List Int)) (hb : ∀ l ∈ ls, Byt l) : Ev (fun k => impl_CheckProof.f k root data p n ls) (checkV root data n p L ls) := by
  unfold impl_CheckProof.f checkV
  refine ev_bind (impl_isProof_ev n p L h ls) ?_
  by_cases g : Right n p L ls
  · rw [if_pos g]
    exact ev_pos (decide_eq_true g) (ev_bind (ev_now (impl_leaf_eq hd hdl)) (ev_bind (h g.1) (check_l0 root hr L ls hL g.2.1 (right_mem g hb) p n L.length 0 _ (by omega) (leafV_byt _) (leafV_length _))))
  · rw [if_neg g]
    exact ev_neg (fun e => g (of_decide_eq_true e)) (ev_now rfl)
theorem spec_CheckProof_ev {root data : List Int} (hr : root.length ≤ 281474976710656) (hd : Byt data) (hdl : data.length ≤ 4294967296) (n p : Int) (L : List Bool) (hL : L.length ≤ 1000) (h : Placed n p → Ev (fun k => spec_l3Sides.f k n p) (L.map not)) (ls : List (List Int)) (hll : ls.length ≤ 11728124029610) (hb : ∀ l ∈ ls, Byt l) : Ev (fun k => spec_CheckProof.f k root data p n ls) (checkV root data n p L ls) := by
  unfold spec_CheckProof.f checkV
  refine ev_bind (spec_right_ev n p L h ls hll) ?_
  by_cases g : Right n p L ls
  · rw [if_pos g]
    exact ev_pos (decide_eq_true g) (ev_bind (ev_now (spec_leaf_eq hd hdl)) (ev_bind (h g.1) (spec_check_l0 root hr L ls hL g.2.1 (right_mem g hb) p n L.length 0 _ (by omega) (leafV_byt _) (leafV_length _))))
  · rw [if_neg g]
    exact ev_neg (fun e => g (of_decide_eq_true e)) (ev_now rfl)
/-- The sides of whatever count and place: a list that serves where the place is one. -/
theorem sides_any (n p : Int) : ∃ L : List Bool, L.length ≤ 15 ∧ (Placed n p → Ev (fun k => impl_sides.f k n p) L) ∧ (Placed n p → Ev (fun k => spec_l3Sides.f k n p) (L.map not)) := by
  by_cases h : Placed n p
  · obtain ⟨L, h1, h2, h3⟩ := sides_ex n p h
    exact ⟨L, by omega, fun _ => h2, fun _ => h3⟩
  · exact ⟨[], by simp, fun g => absurd g h, fun g => absurd g h⟩
end Go.Proofs.Ytecndndpjekjbaa.S

/- The program's CheckProof and the reference's answer alike, for every argument. No condition. -/
set_option linter.unusedVariables false
namespace Go.Proofs.Ytecndndpjekjbaa.S
open Go.RowKit Go.Proofs.YtecndndpjekjbaaW.PrintWords Go.Proofs.YtecndndpjekjbaaW.PrintLast Go.Proofs.YtecndndpjekjbaaW.PrintMore Go.Proofs.Ytecndndpjekjbaa.Base Go.Proofs.Ytecndndpjekjbaa.Sha
theorem szProof_ex (a b : Int) (ls : List (List Int)) (hl : ls.length ≤ 9223372036854775807) (hi : ∀ l ∈ ls, l.length ≤ 9223372036854775807) (m : Int) (ha : 0 ≤ m) (hb : m ≤ 1048576) : ∃ r, Ev (fun k => laws_szProof.f k a b ls m) r ∧ (¬ r < 0 → (ls.length : Int) + (ls.flatten.length : Int) ≤ m) := by
  obtain ⟨r, hr, hrm, hz⟩ := szByteSS_ex ls hl hi m ha hb
  unfold laws_szProof.f
  by_cases c : r < 0
  · exact ⟨-1, ev_bind hr (ev_pos c (ev_now rfl)), fun g => absurd (by omega) g⟩
  · exact ⟨r, ev_bind hr (ev_neg c (ev_now rfl)), fun g => by have := hz g; omega⟩
end Go.Proofs.Ytecndndpjekjbaa.S
namespace Go.Proofs.Ytecndndpjekjbaa.Pure
open Go.RowKit Go.Proofs.Ytecndndpjekjbaa.S Go.Proofs.YtecndndpjekjbaaW.PrintWords Go.Proofs.YtecndndpjekjbaaW.PrintLast Go.Proofs.YtecndndpjekjbaaW.PrintMore Go.Proofs.Ytecndndpjekjbaa.Base Go.Proofs.Ytecndndpjekjbaa.Sha

theorem FnExactCheckProof : ∀ (l0 : List Int) (l1 : List Int) (y2 : S48), l0.length ≤ 9223372036854775807 → (∀ y ∈ l0, (Lit.int .u8 y).wf = true) → l1.length ≤ 9223372036854775807 → (∀ y ∈ l1, (Lit.int .u8 y).wf = true) → (((Lit.int .i64 y2.f0).wf = true) ∧ ((Lit.int .i64 y2.f1).wf = true) ∧ (y2.f2.length ≤ 9223372036854775807 ∧ ∀ y3 ∈ y2.f2, y3.length ≤ 9223372036854775807 ∧ ∀ y2 ∈ y3, (Lit.int .u8 y2).wf = true)) → ∃ k, laws_FnExactCheckProof.f k l0 l1 y2.f0 y2.f1 y2.f2 = some true := by
  rintro l0 l1 ⟨p, n, ls⟩ _ w0 _ w1 ⟨_, _, hl, hw⟩
  refine Ev.rounds ?_
  simp only at hl hw ⊢
  unfold laws_FnExactCheckProof.f
  by_cases c0 : (l0.length : Int) > 1048576
  · exact ev_pos c0 (ev_now rfl)
  refine ev_neg c0 ?_
  by_cases c1 : (l1.length : Int) > 1048576
  · exact ev_pos c1 (ev_now rfl)
  refine ev_neg c1 ?_
  obtain ⟨r, hr, hz⟩ := szProof_ex p n ls hl (fun l hm => (hw l hm).1) 1048576 (by omega) (by omega)
  refine ev_bind hr ?_
  by_cases c2 : r < 0
  · exact ev_pos c2 (ev_now rfl)
  refine ev_neg c2 ?_
  have hz := hz c2
  have hmem : ∀ l ∈ ls, l.length ≤ 281474976710656 := fun l hm => by have := mem_flat hm; omega
  have hb : ∀ l ∈ ls, Byt l := fun l hm => byt_of_wf (hw l hm).2
  obtain ⟨L, hL, hi, hs⟩ := sides_any n p
  have t0 := toByteS_ev l0 (by omega)
  have t1 := toByteS_ev l1 (by omega)
  have e0 := eqByteS_ev l0 (by omega)
  have e1 := eqByteS_ev l1 (by omega)
  have t2 : Ev (fun k => laws_toProof.f k p n ls) (p, n, ls) := by
    unfold laws_toProof.f
    exact ev_bind (toByteSS_ev ls (by omega) hmem) (ev_now rfl)
  have e2 : Ev (fun k => laws_eqProof.f k p n ls p n ls) true := by
    unfold laws_eqProof.f
    exact ev_pos rfl (ev_pos rfl (ev_bind (eqByteSS_ev ls (by omega) hmem) (ev_pos rfl (ev_now rfl))))
  have hs := spec_CheckProof_ev (root := l0) (data := l1) (by omega) (byt_of_wf w1) (by omega) n p L (by omega) hs ls (by omega) hb
  have hi := impl_CheckProof_ev (root := l0) (data := l1) (byt_of_wf w0) (byt_of_wf w1) (by omega) n p L (by omega) hi ls hb
  refine ev_bind t0 (ev_bind t1 (ev_bind t2 (ev_bind hs (ev_bind t0 (ev_bind t1 (ev_bind t2 (ev_bind hi (ev_neg (by simp) ?_))))))))
  exact ev_bind t0 (ev_bind e0 (ev_pos rfl (ev_bind t1 (ev_bind e1 (ev_pos rfl (ev_bind t2 (ev_bind e2 (ev_pos rfl (ev_now rfl)))))))))
end Go.Proofs.Ytecndndpjekjbaa.Pure
