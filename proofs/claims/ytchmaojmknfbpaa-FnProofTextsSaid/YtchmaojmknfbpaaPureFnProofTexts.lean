import Derived.Test.YtchmaojmknfbpaaShaI
import Derived.Test.YtchmaojmknfbpaaPStr
import Derived.Test.YtchmaojmknfbpaaBase
import Derived.Test.YtchmaojmknfbpaaSxImplTree
import Derived.Test.YtchmaojmknfbpaaSxSpecTree
import Derived.Test.YtchmaojmknfbpaaSxSpecTaggedDigest
import Derived.Test.YtchmaojmknfbpaaSx0
import Derived.Test.YtchmaojmknfbpaaShaS
import Derived.WalkSpells
import Derived.Test.YtchmaojmknfbpaaSxSpecL3PathY
import Derived.Test.YtchmaojmknfbpaaSxSpecL3ProveY
import Derived.Test.YtchmaojmknfbpaaSxSpecL1D
import Derived.Test.YtchmaojmknfbpaaSxSpecL3LeavesY
import Derived.Test.YtchmaojmknfbpaaSxImplSmall
import Derived.Test.YtchmaojmknfbpaaSxImplIsProofY
import Derived.Test.YtchmaojmknfbpaaSxImplPathLength
import Derived.Test.YtchmaojmknfbpaaSxImplAreDigestsY
import Derived.Test.YtchmaojmknfbpaaSxImplPackedY
import Derived.Test.YtchmaojmknfbpaaSxImplPackY
import Derived.Test.YtchmaojmknfbpaaSxImplPackProofY
import Derived.Test.YtchmaojmknfbpaaSxImplPackProof
import Derived.Test.YtchmaojmknfbpaaSxSpecL1
import Derived.Test.YtchmaojmknfbpaaSxSpecL3RightY
import Derived.Test.YtchmaojmknfbpaaSxSpecPathLength
import Derived.Test.YtchmaojmknfbpaaSxSpecL1P
import Derived.Test.YtchmaojmknfbpaaSxSpecPackProof
import Derived.Test.YtchmaojmknfbpaaSxSpecL3DrawY
import Derived.Test.YtchmaojmknfbpaaSxSpecDrawUnpackProof
import Derived.Test.YtchmaojmknfbpaaSxImplUnpackWords
import Derived.Test.YtchmaojmknfbpaaSxBytesClone
import Derived.Test.YtchmaojmknfbpaaSxSpecUnpackWords
import Derived.Laws.Tables
import Derived.Laws.CopyOwn
import Derived.Test.YtchmaojmknfbpaaSxLawsHelpW
/- How a tree is split, and on which side the other parts are: the program's splitAt and sides and the reference's l3Split and l3Sides agree for 1 to 16 leaves. -/
set_option linter.unusedVariables false
namespace Go.Proofs.Ytchmaojmknfbpaa.S
open Go.RowKit Go.Proofs.YtchmaojmknfbpaaW.PrintWords Go.Proofs.YtchmaojmknfbpaaW.PrintLast Go.Proofs.YtchmaojmknfbpaaW.PrintMore Go.Proofs.Ytchmaojmknfbpaa.Base

def splitV (n : Int) : Int := if n ≤ 2 then 1 else if n ≤ 4 then 2 else if n ≤ 8 then 4 else 8
theorem splitV_range {n : Int} (h : 2 ≤ n) (h1 : n ≤ 16) : 1 ≤ splitV n ∧ splitV n < n ∧ splitV n ≤ 8 ∧ n - splitV n ≤ 8 := by
  unfold splitV
  repeat' split
  all_goals omega
theorem wd (x : Int) (h0 : 0 ≤ x) (h1 : x ≤ 16) : wrap64 (2 * x) = 2 * x := w64 (by omega) (by omega)
theorem wd' (x : Int) (h0 : 0 ≤ x) (h1 : x ≤ 16) : wrap64 (x * 2) = 2 * x := by rw [w64 (by omega) (by omega)]; omega
theorem impl_split_ev {n : Int} (h : 2 ≤ n) (h1 : n ≤ 16) : Ev (fun k => impl_splitAt.f k n) (splitV n) := by
  unfold impl_splitAt.f splitV
  refine ev_step (fun k => impl_splitAt.l0.eq_2 _ _ _) ?_
  rw [wd 1 (by omega) (by omega), wd' 1 (by omega) (by omega)]
  by_cases c1 : n ≤ 2
  · rw [if_pos c1]; exact ev_neg (by omega) (ev_now rfl)
  rw [if_neg c1]; refine ev_pos (by omega) ?_
  refine ev_step (fun k => impl_splitAt.l0.eq_2 _ _ _) ?_
  rw [wd (2 * 1) (by omega) (by omega), wd' (2 * 1) (by omega) (by omega)]
  by_cases c2 : n ≤ 4
  · rw [if_pos c2]; exact ev_neg (by omega) (ev_now rfl)
  rw [if_neg c2]; refine ev_pos (by omega) ?_
  refine ev_step (fun k => impl_splitAt.l0.eq_2 _ _ _) ?_
  rw [wd (2 * (2 * 1)) (by omega) (by omega), wd' (2 * (2 * 1)) (by omega) (by omega)]
  by_cases c3 : n ≤ 8
  · rw [if_pos c3]; exact ev_neg (by omega) (ev_now rfl)
  rw [if_neg c3]; refine ev_pos (by omega) ?_
  refine ev_step (fun k => impl_splitAt.l0.eq_2 _ _ _) ?_
  rw [wd (2 * (2 * (2 * 1))) (by omega) (by omega)]
  exact ev_neg (by omega) (ev_now rfl)
end Go.Proofs.Ytchmaojmknfbpaa.S

/- How a tree is split, and on which side the other parts are: the program's splitAt and sides and the reference's l3Split and l3Sides agree for 1 to 16 leaves. -/
set_option linter.unusedVariables false
namespace Go.Proofs.Ytchmaojmknfbpaa.S
open Go.RowKit Go.Proofs.YtchmaojmknfbpaaW.PrintWords Go.Proofs.YtchmaojmknfbpaaW.PrintLast Go.Proofs.YtchmaojmknfbpaaW.PrintMore Go.Proofs.Ytchmaojmknfbpaa.Base

theorem spec_split_ev {n : Int} (h : 2 ≤ n) (h1 : n ≤ 16) : Ev (fun k => spec_l3Split.f k n) (splitV n) := by
  unfold spec_l3Split.f splitV
  refine ev_step (fun k => spec_l3Split.l0.eq_2 _ _ _) ?_
  rw [wd 1 (by omega) (by omega)]
  by_cases c1 : n ≤ 2
  · rw [if_pos c1]; exact ev_neg (by omega) (ev_now rfl)
  rw [if_neg c1]; refine ev_pos (by omega) ?_
  refine ev_step (fun k => spec_l3Split.l0.eq_2 _ _ _) ?_
  rw [wd (2 * 1) (by omega) (by omega)]
  by_cases c2 : n ≤ 4
  · rw [if_pos c2]; exact ev_neg (by omega) (ev_now rfl)
  rw [if_neg c2]; refine ev_pos (by omega) ?_
  refine ev_step (fun k => spec_l3Split.l0.eq_2 _ _ _) ?_
  rw [wd (2 * (2 * 1)) (by omega) (by omega)]
  by_cases c3 : n ≤ 8
  · rw [if_pos c3]; exact ev_neg (by omega) (ev_now rfl)
  rw [if_neg c3]; refine ev_pos (by omega) ?_
  refine ev_step (fun k => spec_l3Split.l0.eq_2 _ _ _) ?_
  rw [wd (2 * (2 * (2 * 1))) (by omega) (by omega)]
  exact ev_neg (by omega) (ev_now rfl)
/-- The sides of the way from leaf p up in a tree of n leaves: true: the other part is on the left. -/
theorem sides_ev : ∀ (m : Nat) (n p : Int), n ≤ m → 1 ≤ n → n ≤ 16 → 0 ≤ p → p < n → ∃ L : List Bool, (L.length : Int) < n ∧ Ev (fun k => impl_sides.f k n p) L ∧ Ev (fun k => spec_l3Sides.f k n p) (L.map not) := by
  intro m
  induction m with
  | zero => intro n p h h1; omega
  | succ m ih =>
    intro n p h h1 h2 hp hq
    by_cases e : n = 1
    · refine ⟨[], by simp; omega, ?_, ?_⟩
      · exact ev_step (fun k => impl_sides.f.eq_2 _ _ _) (ev_pos e (ev_now rfl))
      · exact ev_step (fun k => spec_l3Sides.f.eq_2 _ _ _) (ev_pos (by omega) (ev_now rfl))
    · have hr := splitV_range (n := n) (by omega) h2
      have hs := spec_split_ev (n := n) (by omega) h2
      have hi := impl_split_ev (n := n) (by omega) h2
      generalize splitV n = v at hr hs hi
      by_cases c : p < v
      · obtain ⟨L, l1, l2, l3⟩ := ih v p (by omega) (by omega) (by omega) hp c
        refine ⟨L ++ [false], by simp; omega, ?_, ?_⟩
        · refine ev_step (fun k => impl_sides.f.eq_2 _ _ _) (ev_neg e (ev_bind hi (ev_pos c (ev_bind l2 (ev_pos ?_ (ev_now rfl))))))
          omega
        · refine ev_step (fun k => spec_l3Sides.f.eq_2 _ _ _) (ev_neg (by omega) (ev_bind hs (ev_pos c (ev_bind l3 (ev_pos ?_ (ev_now (by simp)))))))
          rw [List.length_map]; omega
      · obtain ⟨L, l1, l2, l3⟩ := ih (n - v) (p - v) (by omega) (by omega) (by omega) (by omega) (by omega)
        have e1 : wrap64 (n - v) = n - v := w64 (by omega) (by omega)
        have e2 : wrap64 (p - v) = p - v := w64 (by omega) (by omega)
        refine ⟨L ++ [true], by simp; omega, ?_, ?_⟩
        · refine ev_step (fun k => impl_sides.f.eq_2 _ _ _) (ev_neg e (ev_bind hi (ev_neg c ?_)))
          rw [e1, e2]
          exact ev_bind l2 (ev_pos (by omega) (ev_now rfl))
        · refine ev_step (fun k => spec_l3Sides.f.eq_2 _ _ _) (ev_neg (by omega) (ev_bind hs (ev_neg c ?_)))
          rw [e1, e2]
          exact ev_bind l3 (ev_pos (by rw [List.length_map]; omega) (ev_now (by simp)))
end Go.Proofs.Ytchmaojmknfbpaa.S

/- The root and the paths of a tree, as the reference makes them: they come to digests, as many as there are levels at most. For up to 16 events of bytes that fit. -/
set_option linter.unusedVariables false
namespace Go.Proofs.Ytchmaojmknfbpaa.S
open Go.RowKit Go.Proofs.YtchmaojmknfbpaaW.PrintWords Go.Proofs.YtchmaojmknfbpaaW.PrintLast Go.Proofs.YtchmaojmknfbpaaW.PrintMore Go.Proofs.Ytchmaojmknfbpaa.Base Go.Proofs.Ytchmaojmknfbpaa.Sha

theorem tagS {t : ByteArray} {l : List Int} (hl : Byt l) (hn : t.size + l.length < 60000000000000) : ∃ r, spec_TaggedDigest.f t l = some r ∧ Byt r ∧ r.length = 32 := by
  refine ⟨sha ([(t.size : Int) % 256] ++ bytesOf t ++ l), ?_, sha_byt _, sha_length _⟩
  unfold spec_TaggedDigest.f spec_Digest.f
  refine if_pos ?_
  unfold spec_Digest.ok
  rw [Bool.and_eq_true]
  exact ⟨List.all_eq_true.2 (fun x hx => decide_eq_true (byt_append (byt_append (byt_one (by omega) (by omega)) (bytesOf_byt t)) hl x hx)), decide_eq_true (by rw [List.length_append, List.length_append, bytesOf_length, List.length_singleton]; omega)⟩
theorem leafS {l : List Int} (hl : Byt l) (hn : l.length ≤ 4294967296) : ∃ r, spec_LeafDigest.f l = some r ∧ Byt r ∧ r.length = 32 := by
  have h4 : (⟨#[108, 101, 97, 102]⟩ : ByteArray).size = 4 := rfl
  obtain ⟨r, h, h1⟩ := tagS (t := ⟨#[108, 101, 97, 102]⟩) hl (by omega)
  refine ⟨r, ?_, h1⟩
  unfold spec_LeafDigest.f
  rw [h]
  rfl
theorem nodeS {l m : List Int} (hl : Byt l) (hm : Byt m) (hn : l.length ≤ 4294967296) (hn2 : m.length ≤ 4294967296) : ∃ r, spec_NodeDigest.f l m = some r ∧ Byt r ∧ r.length = 32 := by
  have h4 : (⟨#[110, 111, 100, 101]⟩ : ByteArray).size = 4 := rfl
  obtain ⟨r, h, h1⟩ := tagS (t := ⟨#[110, 111, 100, 101]⟩) (byt_append hl hm) (by rw [List.length_append]; omega)
  refine ⟨r, ?_, h1⟩
  unfold spec_NodeDigest.f
  simp only [Option.bind_some, List.length_nil, List.nil_append]
  rw [if_pos (show 0 + l.length < 140737488355328 by omega), if_pos (show l.length + m.length < 140737488355328 by omega), h]
  rfl
def FewB (ls : List (List Int)) : Prop := ls.length ≤ 16 ∧ ∀ l ∈ ls, Byt l ∧ l.length ≤ 4294967296
theorem FewB.take {ls : List (List Int)} (h : FewB ls) (n : Nat) : FewB (ls.take n) := ⟨by have := h.1; rw [List.length_take]; omega, fun l hl => h.2 l (List.mem_of_mem_take hl)⟩
theorem FewB.drop {ls : List (List Int)} (h : FewB ls) (n : Nat) : FewB (ls.drop n) := ⟨by have := h.1; rw [List.length_drop]; omega, fun l hl => h.2 l (List.mem_of_mem_drop hl)⟩
theorem splitS {n : Nat} (h : 2 ≤ n) (h1 : n ≤ 16) : ∃ v : Nat, (1 ≤ v ∧ v < n) ∧ Ev (fun k => spec_l3Split.f k (n : Int)) (v : Int) := by
  have hr := splitV_range (n := (n : Int)) (by omega) (by omega)
  have hs := spec_split_ev (n := (n : Int)) (by omega) (by omega)
  generalize splitV (n : Int) = v at *
  exact ⟨v.toNat, by omega, by rw [Int.toNat_of_nonneg (by omega)]; exact hs⟩
theorem rootS : ∀ (m : Nat) (ls : List (List Int)), ls.length ≤ m → FewB ls → ∃ r, Ev (fun k => spec_l3Root.f k ls) r ∧ Byt r ∧ r.length = 32 := by
  intro m
  have h4 : (⟨#[110, 111, 110, 101]⟩ : ByteArray).size = 4 := rfl
  have none_ : ∀ ls : List (List Int), ls.length = 0 → ∃ r, Ev (fun k => spec_l3Root.f k ls) r ∧ Byt r ∧ r.length = 32 := by
    intro ls h0
    obtain ⟨r, h, h1⟩ := tagS (t := ⟨#[110, 111, 110, 101]⟩) byt_nil (by simp only [List.length_nil]; omega)
    exact ⟨r, ev_step (fun k => spec_l3Root.f.eq_2 _ _) (ev_pos (by omega) (ev_bind (ev_now h) (ev_now rfl))), h1⟩
  induction m with
  | zero =>
    intro ls h hL
    exact none_ ls (by omega)
  | succ m ih =>
    intro ls h hL
    by_cases h0 : ls.length = 0
    · exact none_ ls h0
    by_cases h1 : ls.length = 1
    · have hm : ls.getD 0 [] ∈ ls := by
        rw [List.getD_eq_getElem?_getD, List.getElem?_eq_getElem (show 0 < ls.length by omega)]
        exact List.getElem_mem _
      obtain ⟨hy, hn⟩ := hL.2 _ hm
      obtain ⟨r, h, h2⟩ := leafS hy hn
      exact ⟨r, ev_step (fun k => spec_l3Root.f.eq_2 _ _) (ev_neg (by omega) (ev_pos (by omega) (ev_pos (by omega) (ev_bind (ev_now h) (ev_now rfl))))), h2⟩
    · have hl := hL.1
      obtain ⟨v, hv, hs⟩ := splitS (n := ls.length) (by omega) hl
      obtain ⟨x, a1, a2, a3⟩ := ih (ls.take v) (by rw [List.length_take]; omega) (hL.take v)
      obtain ⟨y, b1, b2, b3⟩ := ih (ls.drop v) (by rw [List.length_drop]; omega) (hL.drop v)
      obtain ⟨r, hr, h2⟩ := nodeS a2 b2 (by omega) (by omega)
      refine ⟨r, ev_step (fun k => spec_l3Root.f.eq_2 _ _) (ev_neg (by omega) (ev_neg (by omega) (ev_bind hs (ev_pos (by omega) (ev_pos (by omega) ?_))))), h2⟩
      rw [Int.toNat_natCast]
      exact ev_bind a1 (ev_bind b1 (ev_bind (ev_now hr) (ev_now rfl)))
theorem pathS : ∀ (m : Nat) (ls : List (List Int)) (a : Int), m ≤ 1000 → ls.length ≤ m → FewB ls → 0 ≤ a → a < ls.length → ∃ ps, Ev (fun k => spec_l3Path.f k ls a) ps ∧ ps.length ≤ m ∧ ∀ l ∈ ps, Byt l := by
  intro m
  induction m with
  | zero => intro ls a hm h hL h0 h1; omega
  | succ m ih =>
    intro ls a hm h hL h0 h1
    by_cases c1 : ls.length = 1
    · exact ⟨[], ev_step (fun k => spec_l3Path.f.eq_2 _ _ _) (ev_pos (by omega) (ev_now rfl)), by simp, fun l hl => by cases hl⟩
    · have hl := hL.1
      obtain ⟨v, hv, hs⟩ := splitS (n := ls.length) (by omega) hl
      have t1 : (ls.take v).length = v := by rw [List.length_take]; omega
      have t2 : (ls.drop v).length = ls.length - v := by rw [List.length_drop]
      obtain ⟨x, s1, x2, _⟩ := rootS 16 (ls.take v) (by omega) (hL.take v)
      obtain ⟨y, s2, y2, _⟩ := rootS 16 (ls.drop v) (by omega) (hL.drop v)
      have add : ∀ {ps : List (List Int)} {z : List Int}, (∀ l ∈ ps, Byt l) → Byt z → ∀ l ∈ ps ++ [z], Byt l := fun hp hz l hm => by
        rcases List.mem_append.1 hm with h | h
        · exact hp l h
        · rw [List.mem_singleton.1 h]; exact hz
      by_cases c2 : a < (v : Int)
      · obtain ⟨ps, p1, p2, p3⟩ := ih (ls.take v) a (by omega) (by omega) (hL.take v) h0 (by omega)
        refine ⟨ps ++ [y], ev_step (fun k => spec_l3Path.f.eq_2 _ _ _) (ev_neg (by omega) (ev_bind hs (ev_pos c2 (ev_pos (by omega) (ev_pos (by omega) ?_))))), by rw [List.length_append, List.length_singleton]; omega, add p3 y2⟩
        rw [Int.toNat_natCast]
        exact ev_bind p1 (ev_bind s2 (ev_pos (by omega) (ev_now rfl)))
      · obtain ⟨ps, p1, p2, p3⟩ := ih (ls.drop v) (a - (v : Int)) (by omega) (by omega) (hL.drop v) (by omega) (by omega)
        refine ⟨ps ++ [x], ev_step (fun k => spec_l3Path.f.eq_2 _ _ _) (ev_neg (by omega) (ev_bind hs (ev_neg c2 (ev_pos (by omega) (ev_pos (by omega) ?_))))), by rw [List.length_append, List.length_singleton]; omega, add p3 x2⟩
        rw [Int.toNat_natCast, w64 (n := a - (v : Int)) (by omega) (by omega)]
        exact ev_bind p1 (ev_bind s1 (ev_pos (by omega) (ev_now rfl)))
theorem proveS {ls : List (List Int)} {a : Int} (hL : FewB ls) (h0 : 0 ≤ a) (h1 : a < ls.length) : ∃ ps, Ev (fun k => spec_l3Prove.f k ls a) (a, (ls.length : Int), ps) ∧ ps.length ≤ 16 ∧ ∀ l ∈ ps, Byt l := by
  obtain ⟨ps, hp, h2⟩ := pathS 16 ls a (by omega) hL.1 hL h0 h1
  refine ⟨ps, ?_, h2⟩
  unfold spec_l3Prove.f
  exact ev_bind hp (ev_now rfl)
end Go.Proofs.Ytchmaojmknfbpaa.S

/- What the reference's draws come to, as far as the laws need it: each ends, in bounds. For every code that fits. -/
set_option linter.unusedVariables false
namespace Go.Proofs.Ytchmaojmknfbpaa.S
open Go.RowKit Go.Proofs.YtchmaojmknfbpaaW.PrintWords Go.Proofs.YtchmaojmknfbpaaW.PrintLast Go.Proofs.YtchmaojmknfbpaaW.PrintMore Go.Proofs.Ytchmaojmknfbpaa.Base

theorem tmod_range {a n : Int} (h0 : 0 ≤ a) (h1 : 1 ≤ n) : 0 ≤ Int.tmod a n ∧ Int.tmod a n < n := by
  rw [Int.tmod_eq_emod_of_nonneg h0]
  exact ⟨Int.emod_nonneg _ (by omega), Int.emod_lt_of_pos _ (by omega)⟩
theorem next_ok {c : List Int} (hc : Byt c) {at_ : Int} (h0 : 0 ≤ at_) (h1 : at_ ≤ 1099511627776) (n : Int) : ∃ v, spec_l1Next.f c at_ n = some (v, at_ + 1) ∧ 0 ≤ v ∧ (v < n ∨ v = 0) := by
  unfold spec_l1Next.f
  rw [w64 (n := at_ + 1) (by omega) (by omega), w64 (n := at_ + 1 - 1) (by omega) (by omega), show at_ + 1 - 1 = at_ by omega]
  by_cases hn : n < 1
  · exact ⟨0, by rw [if_pos hn], by omega, .inr rfl⟩
  rw [if_neg hn]
  by_cases hl : (c.length : Int) = 0
  · rw [if_pos hl, if_neg (by omega), w64 (n := at_ * 7) (by omega) (by omega)]
    have := tmod_range (a := at_ * 7) (n := n) (by omega) (by omega)
    exact ⟨_, rfl, this.1, .inl this.2⟩
  rw [if_neg hl]
  have hp := tmod_range (a := at_) (n := (c.length : Int)) h0 (by omega)
  have hp2 := tmod_range (a := at_ + 1) (n := (c.length : Int)) (by omega) (by omega)
  have hq : 0 ≤ Int.tdiv at_ (c.length : Int) ∧ Int.tdiv at_ (c.length : Int) ≤ at_ := by
    rw [Int.tdiv_eq_ediv_of_nonneg h0]
    exact ⟨Int.ediv_nonneg h0 (by omega), Int.ediv_le_self _ h0⟩
  rw [if_pos hp.1, if_pos hp.2]
  have hb1 := byt_rd hc (Int.tmod at_ (c.length : Int))
  generalize rd c (Int.tmod at_ (c.length : Int)) = b1 at *
  generalize Int.tdiv at_ (c.length : Int) = q at *
  rw [w64 (n := b1) (by omega) (by omega), w64 (n := q) (by omega) (by omega), w64 (n := q * 37) (by omega) (by omega), w64 (n := b1 + q * 37) (by omega) (by omega)]
  by_cases hg : n > 200
  · rw [if_pos hg, w64 (n := at_ + 1) (by omega) (by omega), if_pos hp2.1, if_pos hp2.2, if_neg (by omega)]
    have hb2 := byt_rd hc (Int.tmod (at_ + 1) (c.length : Int))
    generalize rd c (Int.tmod (at_ + 1) (c.length : Int)) = b2 at *
    rw [w64 (n := b2) (by omega) (by omega), w64 (n := b2 * 13) (by omega) (by omega), w64 (n := (b1 + q * 37) * 251) (by omega) (by omega), w64 (n := (b1 + q * 37) * 251 + b2 * 13) (by omega) (by omega), w64 (n := (b1 + q * 37) * 251 + b2 * 13 + at_) (by omega) (by omega)]
    have := tmod_range (a := (b1 + q * 37) * 251 + b2 * 13 + at_) (n := n) (by omega) (by omega)
    exact ⟨_, rfl, this.1, .inl this.2⟩
  · rw [if_neg hg, if_neg (by omega)]
    have := tmod_range (a := b1 + q * 37) (n := n) (by omega) (by omega)
    exact ⟨_, rfl, this.1, .inl this.2⟩
theorem some_l0 {c : List Int} (hc : Byt c) : ∀ (n : Nat) (x : List Int) (at_ : Int), 0 ≤ at_ → at_ + n ≤ 1099511627776 → Byt x → x.length + n ≤ 100000000 → ∃ r, Ev (fun k => spec_l1Some.l0 k (n : Int) x c at_) (r, at_ + n) ∧ Byt r ∧ r.length = x.length + n := by
  intro n
  induction n with
  | zero =>
    intro x at_ h0 h1 hx hl
    exact ⟨x, ev_step (fun k => spec_l1Some.l0.eq_2 _ _ _ _ _) (ev_neg (by omega) (ev_now (by simp))), hx, by omega⟩
  | succ n ih =>
    intro x at_ h0 h1 hx hl
    obtain ⟨v, hv, hv0, _⟩ := next_ok hc h0 (by omega) 256
    obtain ⟨r, hr, hb, hrl⟩ := ih (x ++ [v % 256]) (at_ + 1) (by omega) (by omega) (byt_append hx (byt_one (by omega) (by omega))) (by simp; omega)
    refine ⟨r, ev_step (fun k => spec_l1Some.l0.eq_2 _ _ _ _ _) (ev_pos (by omega) (ev_bind (ev_now hv) (ev_pos (by omega) ?_))), hb, by rw [hrl]; simp; omega⟩
    rw [w64 (by omega) (by omega), show ((n + 1 : Nat) : Int) - 1 = (n : Int) by omega]
    rw [show at_ + ((n + 1 : Nat) : Int) = at_ + 1 + (n : Int) by omega]
    exact hr
theorem some_ok {c : List Int} (hc : Byt c) (n at_ : Int) (h0 : 0 ≤ at_) (h1 : at_ ≤ 1000000000) (hn : n ≤ 100000) : ∃ r a, Ev (fun k => spec_l1Some.f k c at_ n) (r, a) ∧ Byt r ∧ r.length = n.toNat ∧ at_ ≤ a ∧ a ≤ at_ + 100000 := by
  by_cases h : 0 ≤ n
  · obtain ⟨r, hr, hb, hl⟩ := some_l0 hc n.toNat [] at_ h0 (by omega) byt_nil (by simp; omega)
    refine ⟨r, at_ + n.toNat, ?_, hb, by rw [hl]; simp, by omega, by omega⟩
    unfold spec_l1Some.f
    rw [Int.toNat_of_nonneg h] at hr
    rw [Int.toNat_of_nonneg h]
    exact hr
  · refine ⟨[], at_, ?_, byt_nil, by simp; omega, by omega, by omega⟩
    unfold spec_l1Some.f
    exact ev_step (fun k => spec_l1Some.l0.eq_2 _ _ _ _ _) (ev_neg (by omega) (ev_now rfl))
theorem pick_ok {c : List Int} (hc : Byt c) {at_ : Int} (h0 : 0 ≤ at_) (h1 : at_ ≤ 1099511627776) (L : List Int) (hL : 0 < L.length) : ∃ v, spec_l1Pick.f c at_ L = some (v, at_ + 1) ∧ v ∈ L := by
  obtain ⟨v, hv, hv0, hv1⟩ := next_ok hc h0 h1 (L.length : Int)
  unfold spec_l1Pick.f
  rw [hv, Option.bind_some, if_pos hv0, if_pos (by show v < _; omega)]
  refine ⟨rd L v, rfl, ?_⟩
  obtain ⟨j, rfl⟩ := Int.eq_ofNat_of_zero_le hv0
  rw [rd_nat L j (by omega)]
  exact List.getElem_mem _
end Go.Proofs.Ytchmaojmknfbpaa.S

/- Leaves that the reference draws: they are few and short, and their bytes are bytes. For every code. -/
set_option linter.unusedVariables false
namespace Go.Proofs.Ytchmaojmknfbpaa.S
open Go.RowKit Go.Proofs.YtchmaojmknfbpaaW.PrintWords Go.Proofs.YtchmaojmknfbpaaW.PrintLast Go.Proofs.YtchmaojmknfbpaaW.PrintMore Go.Proofs.Ytchmaojmknfbpaa.Base

theorem leaves_l0 {c : List Int} (hc : Byt c) : ∀ (n : Nat) (x : List (List Int)) (at_ : Int), 0 ≤ at_ → at_ + 200000 * n ≤ 900000000 → x.length + n ≤ 20 → (∀ l ∈ x, Byt l ∧ l.length ≤ 4) →
    ∃ r a, Ev (fun k => spec_l3Leaves.l0 k x (n : Int) c at_) (r, a) ∧ r.length ≤ 20 ∧ (∀ l ∈ r, Byt l ∧ l.length ≤ 4) ∧ 0 ≤ a ∧ a ≤ 900000001 := by
  intro n
  induction n with
  | zero =>
    intro x at_ h0 h1 hl hx
    obtain ⟨v, hv, hv0, _⟩ := next_ok hc h0 (by omega) 40
    have hch : spec_l1Chance.f c at_ 40 = some ((v == 0), at_ + 1) := by
      unfold spec_l1Chance.f
      rw [hv]
      rfl
    by_cases g : (v == 0) = true
    · refine ⟨List.replicate 17 [], at_ + 1, ev_step (fun k => spec_l3Leaves.l0.eq_2 _ _ _ _ _) (ev_neg (by omega) (ev_bind (ev_now hch) (ev_pos g (ev_pos (by omega) (ev_now rfl))))), by simp, fun l hl => ?_, by omega, by omega⟩
      rw [(List.mem_replicate.1 hl).2]
      exact ⟨byt_nil, by simp⟩
    · exact ⟨x, at_ + 1, ev_step (fun k => spec_l3Leaves.l0.eq_2 _ _ _ _ _) (ev_neg (by omega) (ev_bind (ev_now hch) (ev_neg g (ev_now rfl)))), by omega, hx, by omega, by omega⟩
  | succ n ih =>
    intro x at_ h0 h1 hl hx
    obtain ⟨v, hv, hv0, hv1⟩ := next_ok hc h0 (by omega) 4
    obtain ⟨r, a, hr, hb, hrl, ha0, ha1⟩ := some_ok hc v (at_ + 1) (by omega) (by omega) (by omega)
    obtain ⟨rs, a2, hrs, h2, h3, h4, h5⟩ := ih (x ++ [r]) a (by omega) (by omega) (by simp; omega) (fun l hl => by
      rcases List.mem_append.1 hl with h | h
      · exact hx l h
      · rw [List.mem_singleton.1 h]; exact ⟨hb, by omega⟩)
    refine ⟨rs, a2, ev_step (fun k => spec_l3Leaves.l0.eq_2 _ _ _ _ _) (ev_pos (by omega) (ev_bind (ev_now hv) (ev_bind hr (ev_pos (by omega) ?_)))), h2, h3, h4, h5⟩
    rw [w64 (by omega) (by omega), show ((n + 1 : Nat) : Int) - 1 = (n : Int) by omega]
    exact hrs
theorem leaves_ok {c : List Int} (hc : Byt c) {at_ : Int} (h0 : 0 ≤ at_) (h1 : at_ ≤ 1000000) : ∃ r a, Ev (fun k => spec_l3Leaves.f k c at_) (r, a) ∧ r.length ≤ 20 ∧ (∀ l ∈ r, Byt l ∧ l.length ≤ 4) ∧ 0 ≤ a ∧ a ≤ 900000001 := by
  obtain ⟨v, hv, hm⟩ := pick_ok hc (at_ := at_) h0 (by omega) [1, 2, 3, 4, 5, 6, 7, 8, 0, 9, 16] (by simp)
  simp only [List.mem_cons, List.not_mem_nil, or_false] at hm
  obtain ⟨n, rfl⟩ : ∃ n : Nat, v = (n : Int) := ⟨v.toNat, by omega⟩
  obtain ⟨r, a, hr, h2, h3, h4, h5⟩ := leaves_l0 hc n [] (at_ + 1) (by omega) (by omega) (by simp; omega) (fun l hl => by cases hl)
  refine ⟨r, a, ?_, h2, h3, h4, h5⟩
  unfold spec_l3Leaves.f
  exact ev_bind (ev_now hv) hr
end Go.Proofs.Ytchmaojmknfbpaa.S

/- Is a number in its bounds: the program's and the reference's answer. -/
set_option linter.unusedVariables false
namespace Go.Proofs.Ytchmaojmknfbpaa.S
open Go.RowKit Go.Proofs.YtchmaojmknfbpaaW.PrintWords Go.Proofs.YtchmaojmknfbpaaW.PrintLast Go.Proofs.YtchmaojmknfbpaaW.PrintMore Go.Proofs.Ytchmaojmknfbpaa.Base

theorem in_eq (a b c : Int) : impl_in.f a b c = some (decide (b ≤ a ∧ a ≤ c)) := by
  unfold impl_in.f
  by_cases h : b ≤ a <;> simp [h]
end Go.Proofs.Ytchmaojmknfbpaa.S

/- An element of rows of rows. -/
set_option linter.unusedVariables false
namespace Go.Proofs.Ytchmaojmknfbpaa.S
open Go.RowKit Go.Proofs.YtchmaojmknfbpaaW.PrintWords Go.Proofs.YtchmaojmknfbpaaW.PrintLast Go.Proofs.YtchmaojmknfbpaaW.PrintMore Go.Proofs.Ytchmaojmknfbpaa.Base

theorem rdLL (ls : List (List Int)) (i : Nat) (h : i < ls.length) : rd_L1 ls (i : Int) = ls[i] := by
  unfold rd_L1
  simp [List.getD_eq_getElem?_getD, List.getElem?_eq_getElem h]
end Go.Proofs.Ytchmaojmknfbpaa.S

/- Proofs: when one has its form, and what it climbs to: what the program's and the reference's come to. For all that fit. -/
set_option linter.unusedVariables false
namespace Go.Proofs.Ytchmaojmknfbpaa.S
open Go.RowKit Go.Proofs.YtchmaojmknfbpaaW.PrintWords Go.Proofs.YtchmaojmknfbpaaW.PrintLast Go.Proofs.YtchmaojmknfbpaaW.PrintMore Go.Proofs.Ytchmaojmknfbpaa.Base

/-- A place in a tree. -/
def Placed (n p : Int) : Prop := (1 ≤ n ∧ n ≤ 16) ∧ (0 ≤ p ∧ p < n)
instance (n p : Int) : Decidable (Placed n p) := by unfold Placed; infer_instance
theorem impl_pathLength_ev (n p : Int) (L : List Bool) (h : Placed n p → Ev (fun k => impl_sides.f k n p) L) : Ev (fun k => impl_PathLength.f k n p) (if Placed n p then (0, (L.length : Int)) else (3, 0)) := by
  unfold impl_PathLength.f
  refine ev_bind (ev_now (in_eq _ _ _)) ?_
  by_cases h1 : 1 ≤ n ∧ n ≤ 16
  · refine ev_pos (decide_eq_true h1) ?_
    rw [w64 (n := n - 1) (by omega) (by omega)]
    refine ev_bind (ev_now (in_eq _ _ _)) ?_
    by_cases h2 : 0 ≤ p ∧ p ≤ n - 1
    · have hp : Placed n p := ⟨h1, h2.1, by omega⟩
      rw [if_pos hp]
      exact ev_pos (decide_eq_true h2) (ev_bind (h hp) (ev_now rfl))
    · rw [if_neg (fun hp : Placed n p => h2 ⟨hp.2.1, by have := hp.2.2; omega⟩)]
      exact ev_neg (fun g => h2 (of_decide_eq_true g)) (ev_now rfl)
  · rw [if_neg (fun hp : Placed n p => h1 hp.1)]
    exact ev_neg (fun g => h1 (of_decide_eq_true g)) (ev_now rfl)
/-- All of 32 bytes. -/
def All32 (ls : List (List Int)) : Prop := ∀ l ∈ ls, l.length = 32
instance (ls : List (List Int)) : Decidable (All32 ls) := by unfold All32; infer_instance
theorem areDigests_eq (ls : List (List Int)) : impl_areDigests.f ls = some (decide (All32 ls)) := by
  unfold impl_areDigests.f
  congr 1
  rw [Bool.eq_iff_iff, List.all_eq_true, decide_eq_true_iff]
  unfold All32
  constructor
  · intro h l hl
    have := beq_iff_eq.1 (h l hl)
    omega
  · intro h l hl
    exact beq_iff_eq.2 (by have := h l hl; omega)
/-- A proof of the right form: its place, its length, its parts. -/
def Right (n p : Int) (L : List Bool) (ls : List (List Int)) : Prop := Placed n p ∧ ls.length = L.length ∧ All32 ls
instance (n p : Int) (L : List Bool) (ls : List (List Int)) : Decidable (Right n p L ls) := by unfold Right; infer_instance
theorem impl_isProof_ev (n p : Int) (L : List Bool) (h : Placed n p → Ev (fun k => impl_sides.f k n p) L) (ls : List (List Int)) : Ev (fun k => impl_isProof.f k p n ls) (decide (Right n p L ls)) := by
  unfold impl_isProof.f
  refine ev_bind (impl_pathLength_ev n p L h) ?_
  by_cases hp : Placed n p
  · rw [if_pos hp]
    refine ev_pos rfl ?_
    by_cases hl : ls.length = L.length
    · refine ev_pos (show (L.length : Int) = (ls.length : Int) by omega) (ev_bind (ev_now (areDigests_eq ls)) (ev_now ?_))
      congr 1
      rw [Bool.eq_iff_iff, decide_eq_true_iff, decide_eq_true_iff]
      exact ⟨fun g => ⟨hp, hl, g⟩, fun g => g.2.2⟩
    · exact ev_neg (show ¬ (L.length : Int) = (ls.length : Int) by omega) (ev_now (by rw [decide_eq_false (fun g : Right n p L ls => hl g.2.1)]))
  · rw [if_neg hp]
    exact ev_neg (show ¬ (3 : Int) = 0 by decide) (ev_now (by rw [decide_eq_false (fun g : Right n p L ls => hp g.1)]))
end Go.Proofs.Ytchmaojmknfbpaa.S

/- Words behind one another, each with its length ahead: what the program's packed and the reference's l1Pack come to. -/
set_option linter.unusedVariables false
namespace Go.Proofs.Ytchmaojmknfbpaa.S
open Go.RowKit Go.Proofs.YtchmaojmknfbpaaW.PrintWords Go.Proofs.YtchmaojmknfbpaaW.PrintLast Go.Proofs.YtchmaojmknfbpaaW.PrintMore Go.Proofs.Ytchmaojmknfbpaa.Base

/-- Words behind one another, each with its length ahead. -/
def packL : List (List Int) → List Int
  | [] => []
  | w :: ws => (((w.length : Int) % 256) :: w) ++ packL ws
theorem packL_cons_length (w : List Int) (ws : List (List Int)) : (packL (w :: ws)).length = 1 + w.length + (packL ws).length := by
  simp [packL]
  omega
theorem rdW (l : List (List Int)) (i : Nat) (h : i < l.length) : rd_L1 l (i : Int) = l[i] := by
  unfold rd_L1
  simp [List.getD_eq_getElem?_getD, List.getElem?_eq_getElem h]
/-- The words that are packed, and whether they are few and short. -/
def packedV (ws : List (List Int)) : List Int × Bool := if ws.length > 60 then ([], false) else if (∀ w ∈ ws, w.length ≤ 200) ∧ (packL ws).length ≤ 4000 then (packL ws, true) else ([], false)
theorem packed_l0 (ws : List (List Int)) (hw : ws.length ≤ 60) (hs : ∀ w ∈ ws, w.length ≤ 9223372036854771000) : ∀ (d i : Nat) (y : List Int), i + d = ws.length → y.length ≤ 4000 → Ev (fun k => impl_packed.l0 k y ws (ws.length : Int) (i : Int)) (if (∀ w ∈ ws.drop i, w.length ≤ 200) ∧ y.length + (packL (ws.drop i)).length ≤ 4000 then (y ++ packL (ws.drop i), true) else ([], false)) := by
  intro d
  induction d with
  | zero =>
    intro i y hi hl
    rw [List.drop_of_length_le (by omega)]
    rw [if_pos ⟨fun w hw => (by cases hw), (by simpa [packL] using hl)⟩]
    exact ev_step (fun k => impl_packed.l0.eq_2 _ _ _ _ _) (ev_neg (by omega) (ev_now (by simp [packL])))
  | succ d ih =>
    intro i y hi hl
    rw [List.drop_eq_getElem_cons (by omega)]
    have hsi := hs ws[i] (List.getElem_mem _)
    refine ev_step (fun k => impl_packed.l0.eq_2 _ _ _ _ _) (ev_pos (by omega) (ev_pos (by omega) (ev_pos (by omega) ?_)))
    rw [rdW ws i (by omega), packL_cons_length]
    by_cases c : ws[i].length > 200
    · rw [if_neg (fun h => by have := h.1 ws[i] List.mem_cons_self; omega)]
      exact ev_pos (by omega) (ev_now rfl)
    · refine ev_neg (by omega) ?_
      rw [w64 (n := (y.length : Int) + 1) (by omega) (by omega), w64 (n := (y.length : Int) + 1 + (ws[i].length : Int)) (by omega) (by omega)]
      by_cases e : (y.length : Int) + 1 + (ws[i].length : Int) > 4000
      · rw [if_neg (fun h => by omega)]
        exact ev_pos e (ev_now rfl)
      · refine ev_neg e (ev_pos (by omega) (ev_bind (ev_now rfl) (ev_pos (by simp; omega) ?_)))
        rw [w64s (by omega)]
        refine ev_eq (ih (i + 1) _ (by omega) (by simp; omega)) ?_
        have hq : ((∀ w ∈ ws[i] :: ws.drop (i + 1), w.length ≤ 200) ∧ y.length + (1 + ws[i].length + (packL (ws.drop (i + 1))).length) ≤ 4000) ↔ ((∀ w ∈ ws.drop (i + 1), w.length ≤ 200) ∧ (y ++ [(ws[i].length : Int) % 256] ++ ws[i]).length + (packL (ws.drop (i + 1))).length ≤ 4000) := by
          have hlen : (y ++ [(ws[i].length : Int) % 256] ++ ws[i]).length = y.length + 1 + ws[i].length := by simp; omega
          rw [hlen]
          constructor
          · rintro ⟨h1, h2⟩
            exact ⟨fun w hw => h1 w (List.mem_cons_of_mem _ hw), by omega⟩
          · rintro ⟨h1, h2⟩
            refine ⟨fun w hw => ?_, by omega⟩
            rcases List.mem_cons.1 hw with rfl | hw
            · omega
            · exact h1 w hw
        by_cases g : (∀ w ∈ ws[i] :: ws.drop (i + 1), w.length ≤ 200) ∧ y.length + (1 + ws[i].length + (packL (ws.drop (i + 1))).length) ≤ 4000
        · rw [if_pos g, if_pos (hq.1 g)]
          simp [packL]
        · rw [if_neg g, if_neg (fun h => g (hq.2 h))]
theorem packed_ev (ws : List (List Int)) (hs : ∀ w ∈ ws, w.length ≤ 9223372036854771000) : Ev (fun k => impl_packed.f k ws) (packedV ws) := by
  unfold impl_packed.f packedV
  by_cases c : ws.length > 60
  · rw [if_pos c]; exact ev_pos (by omega) (ev_now rfl)
  · rw [if_neg c]
    have h := packed_l0 ws (by omega) hs ws.length 0 [] (by omega) (by simp)
    simp only [List.drop_zero, List.length_nil, Nat.zero_add, List.nil_append] at h
    exact ev_neg (by omega) h
theorem packL_len : ∀ {ws : List (List Int)} {m : Nat}, (∀ w ∈ ws, w.length ≤ m) → (packL ws).length ≤ ws.length * (m + 1)
  | [], m, _ => by simp [packL]
  | w :: ws, m, h => by
    rw [packL_cons_length, List.length_cons, Nat.succ_mul]
    have h1 := h w List.mem_cons_self
    have h2 := packL_len (ws := ws) (m := m) (fun v hv => h v (List.mem_cons_of_mem _ hv))
    omega
theorem packLB_byt : ∀ (ws : List (List Int)), (∀ w ∈ ws, Byt w) → Byt (packL ws) := by
  intro ws
  induction ws with
  | nil => intro _; exact byt_nil
  | cons w ws ih =>
    intro h
    show Byt ((((w.length : Int) % 256) :: w) ++ packL ws)
    exact byt_append (byt_append (byt_one (x := (w.length : Int) % 256) (by omega) (by omega)) (h w List.mem_cons_self)) (ih (fun v hv => h v (List.mem_cons_of_mem _ hv)))
end Go.Proofs.Ytchmaojmknfbpaa.S

/- Proofs as bytes: what the program's PackProof and the reference's come to. For all that fit. -/
set_option linter.unusedVariables false
namespace Go.Proofs.Ytchmaojmknfbpaa.S
open Go.RowKit Go.Proofs.YtchmaojmknfbpaaW.PrintWords Go.Proofs.YtchmaojmknfbpaaW.PrintLast Go.Proofs.YtchmaojmknfbpaaW.PrintMore Go.Proofs.Ytchmaojmknfbpaa.Base
def proofW (p n : Int) (ls : List (List Int)) : List (List Int) := [[p % 256], [n % 256]] ++ ls
def packProofV (p n : Int) (L : List Bool) (ls : List (List Int)) : Int × List Int := if Right n p L ls then (0, packL (proofW p n ls)) else (1, [])
theorem proofW_ok {p n : Int} {L : List Bool} {ls : List (List Int)} (hL : L.length ≤ 15) (h : Right n p L ls) : (proofW p n ls).length ≤ 17 ∧ (∀ w ∈ proofW p n ls, w.length ≤ 32) ∧ (packL (proofW p n ls)).length ≤ 561 := by
  have h1 : (proofW p n ls).length ≤ 17 := by
    unfold proofW
    rw [List.length_append]
    have := h.2.1
    simp only [List.length_cons, List.length_nil]
    omega
  have h2 : ∀ w ∈ proofW p n ls, w.length ≤ 32 := by
    intro w hw
    unfold proofW at hw
    rcases List.mem_append.1 hw with hw | hw
    · simp only [List.mem_cons, List.not_mem_nil, or_false] at hw
      rcases hw with rfl | rfl <;> simp
    · exact Nat.le_of_eq (h.2.2 w hw)
  have h3 := packL_len h2
  exact ⟨h1, h2, by omega⟩
theorem packProofV_length {p n : Int} {L : List Bool} {ls : List (List Int)} (hL : L.length ≤ 15) : (packProofV p n L ls).2.length ≤ 561 := by
  unfold packProofV
  by_cases h : Right n p L ls
  · rw [if_pos h]; exact (proofW_ok hL h).2.2
  · rw [if_neg h]; exact Nat.zero_le _
theorem impl_PackProof_ev (p n : Int) (L : List Bool) (hL : L.length ≤ 15) (h : Placed n p → Ev (fun k => impl_sides.f k n p) L) (ls : List (List Int)) : Ev (fun k => impl_PackProof.f k p n ls) (packProofV p n L ls) := by
  unfold impl_PackProof.f packProofV
  refine ev_bind (impl_isProof_ev n p L h ls) ?_
  by_cases c : Right n p L ls
  · rw [if_pos c]
    obtain ⟨h1, h2, h3⟩ := proofW_ok hL c
    have hn := c.2.1
    have hp : packedV (proofW p n ls) = (packL (proofW p n ls), true) := by
      unfold packedV
      rw [if_neg (by omega), if_pos ⟨fun w hw => by have := h2 w hw; omega, by omega⟩]
    refine ev_pos (decide_eq_true c) (ev_bind (a := packL (proofW p n ls)) ?_ (ev_now rfl))
    unfold impl_packProof.f
    refine ev_bind (ev_now rfl) (ev_pos (by simp only [List.length_cons, List.length_nil]; omega) (ev_bind (a := packL (proofW p n ls)) ?_ (ev_now rfl)))
    unfold impl_pack.f
    refine ev_bind (packed_ev (proofW p n ls) (fun w hw => by have := h2 w hw; omega)) ?_
    rw [hp]
    exact ev_now rfl
  · rw [if_neg c]
    exact ev_neg (fun g => c (of_decide_eq_true g)) (ev_now rfl)
end Go.Proofs.Ytchmaojmknfbpaa.S

/- Is a number in its bounds: the program's and the reference's answer. -/
set_option linter.unusedVariables false
namespace Go.Proofs.Ytchmaojmknfbpaa.S
open Go.RowKit Go.Proofs.YtchmaojmknfbpaaW.PrintWords Go.Proofs.YtchmaojmknfbpaaW.PrintLast Go.Proofs.YtchmaojmknfbpaaW.PrintMore Go.Proofs.Ytchmaojmknfbpaa.Base

theorem l1In_eq (a b c : Int) : spec_l1In.f a b c = some (decide (b ≤ a ∧ a ≤ c)) := by
  unfold spec_l1In.f
  by_cases h : b ≤ a <;> simp [h]
end Go.Proofs.Ytchmaojmknfbpaa.S

/- What the laws' own helpers on byte slices come to: toByteS copies, eqByteS compares, markByteS and heldByteS count alike. For every slice that fits memory. -/
set_option linter.unusedVariables false
namespace Go.Proofs.Ytchmaojmknfbpaa.S
open Go.RowKit Go.Proofs.YtchmaojmknfbpaaW.PrintWords Go.Proofs.YtchmaojmknfbpaaW.PrintLast Go.Proofs.YtchmaojmknfbpaaW.PrintMore Go.Proofs.Ytchmaojmknfbpaa.Base

end Go.Proofs.Ytchmaojmknfbpaa.S

/- How many places are left behind a slice of bytes. -/
set_option linter.unusedVariables false
namespace Go.Proofs.Ytchmaojmknfbpaa.S
open Go.RowKit Go.Proofs.YtchmaojmknfbpaaW.PrintWords Go.Proofs.YtchmaojmknfbpaaW.PrintLast Go.Proofs.YtchmaojmknfbpaaW.PrintMore Go.Proofs.Ytchmaojmknfbpaa.Base

def szV (n : Nat) (a : Int) : Int := if a - n < 0 then -1 else a - n
end Go.Proofs.Ytchmaojmknfbpaa.S

/- What the laws' helpers on slices of byte slices come to: a copy, a comparison, a size. For all that fit memory. -/
set_option linter.unusedVariables false
namespace Go.Proofs.Ytchmaojmknfbpaa.S
open Go.RowKit Go.Proofs.YtchmaojmknfbpaaW.PrintWords Go.Proofs.YtchmaojmknfbpaaW.PrintLast Go.Proofs.YtchmaojmknfbpaaW.PrintMore Go.Proofs.Ytchmaojmknfbpaa.Base

end Go.Proofs.Ytchmaojmknfbpaa.S

/- Proofs: when one has its form, and what it climbs to: what the program's and the reference's come to. For all that fit. -/
set_option linter.unusedVariables false
namespace Go.Proofs.Ytchmaojmknfbpaa.S
open Go.RowKit Go.Proofs.YtchmaojmknfbpaaW.PrintWords Go.Proofs.YtchmaojmknfbpaaW.PrintLast Go.Proofs.YtchmaojmknfbpaaW.PrintMore Go.Proofs.Ytchmaojmknfbpaa.Base

/-- The sides, by the reference's own words; of a place that is none, none. -/
theorem sides_ex (n p : Int) (h : Placed n p) : ∃ L : List Bool, (L.length : Int) < 16 ∧ Ev (fun k => impl_sides.f k n p) L ∧ Ev (fun k => spec_l3Sides.f k n p) (L.map not) := by
  obtain ⟨L, h1, h2, h3⟩ := sides_ev 16 n p h.1.2 h.1.1 h.1.2 h.2.1 h.2.2
  have := h.1.2
  exact ⟨L, by omega, h2, h3⟩
theorem spec_pathLength_ev (n p : Int) (L : List Bool) (h : Placed n p → Ev (fun k => spec_l3Sides.f k n p) (L.map not)) : Ev (fun k => spec_PathLength.f k n p) (if Placed n p then (0, (L.length : Int)) else (3, 0)) := by
  unfold spec_PathLength.f
  refine ev_bind (ev_now (l1In_eq _ _ _)) ?_
  by_cases h1 : 1 ≤ n ∧ n ≤ 16
  · refine ev_pos (decide_eq_true h1) ?_
    rw [w64 (n := n - 1) (by omega) (by omega)]
    refine ev_bind (ev_now (l1In_eq _ _ _)) ?_
    by_cases h2 : 0 ≤ p ∧ p ≤ n - 1
    · have hp : Placed n p := ⟨h1, h2.1, by omega⟩
      rw [if_pos hp]
      exact ev_pos (decide_eq_true h2) (ev_bind (h hp) (ev_now (by rw [List.length_map])))
    · rw [if_neg (fun hp : Placed n p => h2 ⟨hp.2.1, by have := hp.2.2; omega⟩)]
      exact ev_neg (fun g => h2 (of_decide_eq_true g)) (ev_now rfl)
  · rw [if_neg (fun hp : Placed n p => h1 hp.1)]
    exact ev_neg (fun g => h1 (of_decide_eq_true g)) (ev_now rfl)
theorem l3Right_l0 (ls : List (List Int)) (hl : ls.length ≤ 11728124029610) (a b : Int) : ∀ (d i : Nat), i + d = ls.length → Ev (fun k => spec_l3Right.l0 k (i : Int) a b ls) (decide (All32 (ls.drop i))) := by
  intro d
  induction d with
  | zero =>
    intro i h
    rw [List.drop_of_length_le (by omega), decide_eq_true (show All32 [] from fun l hl => by cases hl)]
    exact ev_step (fun k => spec_l3Right.l0.eq_2 _ _ _ _ _) (ev_neg (by omega) (ev_now rfl))
  | succ d ih =>
    intro i h
    have hlt : i < ls.length := by omega
    refine ev_step (fun k => spec_l3Right.l0.eq_2 _ _ _ _ _) (ev_pos (by omega) (ev_pos (by omega) ?_))
    rw [rdLL ls i hlt]
    by_cases g : ls[i].length = 32
    · refine ev_pos (by omega) ?_
      rw [w64s (by omega)]
      refine ev_eq (ih (i + 1) (by omega)) ?_
      rw [Bool.eq_iff_iff, decide_eq_true_iff, decide_eq_true_iff, List.drop_eq_getElem_cons hlt]
      unfold All32
      constructor
      · intro hh l hl
        rcases List.mem_cons.1 hl with rfl | hl
        · exact g
        · exact hh l hl
      · intro hh l hl
        exact hh l (List.mem_cons_of_mem _ hl)
    · refine ev_neg (by omega) (ev_now ?_)
      rw [decide_eq_false]
      rw [List.drop_eq_getElem_cons hlt]
      exact fun hh => g (hh _ List.mem_cons_self)
theorem spec_right_ev (n p : Int) (L : List Bool) (h : Placed n p → Ev (fun k => spec_l3Sides.f k n p) (L.map not)) (ls : List (List Int)) (hl : ls.length ≤ 11728124029610) : Ev (fun k => spec_l3Right.f k p n ls) (decide (Right n p L ls)) := by
  unfold spec_l3Right.f
  refine ev_bind (spec_pathLength_ev n p L h) ?_
  by_cases hp : Placed n p
  · rw [if_pos hp]
    refine ev_pos rfl (ev_step (fun k => spec_l3Right.j0.eq_2 _ _ _ _ _) ?_)
    by_cases hl2 : ls.length = L.length
    · refine ev_neg (show ¬ ((ls.length : Int) != (L.length : Int)) = true by simp [hl2]) ?_
      refine ev_eq (l3Right_l0 ls hl p n ls.length 0 (by omega)) ?_
      rw [List.drop_zero, Bool.eq_iff_iff, decide_eq_true_iff, decide_eq_true_iff]
      exact ⟨fun g => ⟨hp, hl2, g⟩, fun g => g.2.2⟩
    · exact ev_pos (show ((ls.length : Int) != (L.length : Int)) = true from bne_iff_ne.2 (by omega)) (ev_now (by rw [decide_eq_false (fun g : Right n p L ls => hl2 g.2.1)]))
  · rw [if_neg hp]
    exact ev_neg (show ¬ (3 : Int) = 0 by decide) (ev_step (fun k => spec_l3Right.j0.eq_2 _ _ _ _ _) (ev_pos rfl (ev_now (by rw [decide_eq_false (fun g : Right n p L ls => hp g.1)]))))
theorem sides_any (n p : Int) : ∃ L : List Bool, L.length ≤ 15 ∧ (Placed n p → Ev (fun k => impl_sides.f k n p) L) ∧ (Placed n p → Ev (fun k => spec_l3Sides.f k n p) (L.map not)) := by
  by_cases h : Placed n p
  · obtain ⟨L, h1, h2, h3⟩ := sides_ex n p h
    exact ⟨L, by omega, fun _ => h2, fun _ => h3⟩
  · exact ⟨[], by simp, fun g => absurd g h, fun g => absurd g h⟩
end Go.Proofs.Ytchmaojmknfbpaa.S

/- Words behind one another, each with its length ahead: what the program's packed and the reference's l1Pack come to. -/
set_option linter.unusedVariables false
namespace Go.Proofs.Ytchmaojmknfbpaa.S
open Go.RowKit Go.Proofs.YtchmaojmknfbpaaW.PrintWords Go.Proofs.YtchmaojmknfbpaaW.PrintLast Go.Proofs.YtchmaojmknfbpaaW.PrintMore Go.Proofs.Ytchmaojmknfbpaa.Base

theorem l1Pack_l0 (ws : List (List Int)) (hw : ws.length ≤ 1048576) : ∀ (d i : Nat) (y : List Int), i + d = ws.length → y.length + (packL (ws.drop i)).length < 140737488355328 → Ev (fun k => spec_l1Pack.l0 k ws y (i : Int)) (y ++ packL (ws.drop i)) := by
  intro d
  induction d with
  | zero =>
    intro i y hi hl
    rw [List.drop_of_length_le (by omega)]
    exact ev_step (fun k => spec_l1Pack.l0.eq_2 _ _ _ _) (ev_neg (by omega) (ev_now (by simp [packL])))
  | succ d ih =>
    intro i y hi hl
    rw [List.drop_eq_getElem_cons (by omega)] at hl ⊢
    rw [packL_cons_length] at hl
    refine ev_step (fun k => spec_l1Pack.l0.eq_2 _ _ _ _) (ev_pos (by omega) (ev_pos (by omega) (ev_pos (by omega) ?_)))
    rw [rdW ws i (by omega)]
    refine ev_bind (ev_now rfl) (ev_pos (by simp; omega) ?_)
    rw [w64s (by omega)]
    refine ev_eq (ih (i + 1) _ (by omega) (by simp; omega)) ?_
    simp [packL]
theorem l1Pack_ev (ws : List (List Int)) (hw : ws.length ≤ 1048576) (hl : (packL ws).length < 140737488355328) : Ev (fun k => spec_l1Pack.f k ws) (packL ws) := by
  have h := l1Pack_l0 ws hw ws.length 0 [] (by omega) (by simpa using hl)
  unfold spec_l1Pack.f
  simpa using h
end Go.Proofs.Ytchmaojmknfbpaa.S

/- Words that are packed: what the program's PackWords and the reference's come to. For few words that fit. -/
set_option linter.unusedVariables false
namespace Go.Proofs.Ytchmaojmknfbpaa.S
open Go.RowKit Go.Proofs.YtchmaojmknfbpaaW.PrintWords Go.Proofs.YtchmaojmknfbpaaW.PrintLast Go.Proofs.YtchmaojmknfbpaaW.PrintMore Go.Proofs.Ytchmaojmknfbpaa.Base

def packWordsV (ws : List (List Int)) : Int × List Int := if ws.length > 60 then (2, []) else if (∀ w ∈ ws, w.length ≤ 200) ∧ (packL ws).length ≤ 4000 then (0, packL ws) else (2, [])
end Go.Proofs.Ytchmaojmknfbpaa.S

/- Proofs as bytes: what the program's PackProof and the reference's come to. For all that fit. -/
set_option linter.unusedVariables false
namespace Go.Proofs.Ytchmaojmknfbpaa.S
open Go.RowKit Go.Proofs.YtchmaojmknfbpaaW.PrintWords Go.Proofs.YtchmaojmknfbpaaW.PrintLast Go.Proofs.YtchmaojmknfbpaaW.PrintMore Go.Proofs.Ytchmaojmknfbpaa.Base
theorem spec_PackProof_ev (p n : Int) (L : List Bool) (hL : L.length ≤ 15) (h : Placed n p → Ev (fun k => spec_l3Sides.f k n p) (L.map not)) (ls : List (List Int)) (hl : ls.length ≤ 11728124029610) : Ev (fun k => spec_PackProof.f k p n ls) (packProofV p n L ls) := by
  unfold spec_PackProof.f packProofV
  refine ev_bind (spec_right_ev n p L h ls hl) ?_
  by_cases c : Right n p L ls
  · rw [if_pos c]
    obtain ⟨h1, h2, h3⟩ := proofW_ok hL c
    have hn := c.2.1
    exact ev_pos (decide_eq_true c) (ev_bind (ev_now rfl) (ev_pos (by simp only [List.length_cons, List.length_nil]; omega) (ev_bind (l1Pack_ev (proofW p n ls) (by omega) (by omega)) (ev_now rfl))))
  · rw [if_neg c]
    exact ev_neg (fun g => c (of_decide_eq_true g)) (ev_now rfl)
end Go.Proofs.Ytchmaojmknfbpaa.S

/- The bytes that the reference draws for UnpackProof: whatever the code, there are some, and they are bytes. For every code. -/
set_option linter.unusedVariables false
namespace Go.Proofs.Ytchmaojmknfbpaa.S
open Go.RowKit Go.Proofs.YtchmaojmknfbpaaW.PrintWords Go.Proofs.YtchmaojmknfbpaaW.PrintLast Go.Proofs.YtchmaojmknfbpaaW.PrintMore Go.Proofs.Ytchmaojmknfbpaa.Base

theorem draw3_j1 {c : List Int} (hc : Byt c) {ls : List (List Int)} (hL : FewB ls) (h1 : 1 ≤ ls.length) {at_ : Int} (h0 : 0 ≤ at_) (h2 : at_ ≤ 900000010) :
    ∃ (t d : List Int) (q0 q1 : Int) (ps : List (List Int)) (a : Int), Ev (fun k => spec_l3Draw.j1 k ls c at_) (t, d, q0, q1, ps, a) ∧ ps.length ≤ 17 ∧ (∀ l ∈ ps, Byt l) ∧ 0 ≤ a ∧ a ≤ 901000000 := by
  obtain ⟨p, hp, hp0, hp1⟩ := next_ok hc h0 (by omega) (ls.length : Int)
  have hpl : p < (ls.length : Int) := by omega
  obtain ⟨ps, hps, hl, hb⟩ := proveS hL hp0 hpl
  obtain ⟨rt, hrt, _, _⟩ := rootS 16 ls hL.1 hL
  obtain ⟨v, hv, hv0, hv1⟩ := next_ok hc (at_ := at_ + 1) (by omega) (by omega) 10
  have hrd : (rd_L1 ls p).length ≤ 4294967296 := by
    obtain ⟨i, rfl⟩ := Int.eq_ofNat_of_zero_le hp0
    have hi : i < ls.length := by omega
    rw [rdW ls i hi]
    exact (hL.2 _ (List.getElem_mem _)).2
  generalize hd : rd_L1 ls p = dd at *
  have add : ∀ {r : List Int}, Byt r → ∀ l ∈ ps ++ [r], Byt l := fun hz l hm => by
    rcases List.mem_append.1 hm with h | h
    · exact hb l h
    · rw [List.mem_singleton.1 h]; exact hz
  have hlen : ([] ++ dd : List Int).length ≤ 4294967296 := by simpa using hrd
  by_cases g0 : v = 0
  · refine ⟨rt, ([] ++ dd) ++ [0], p, (ls.length : Int), ps, at_ + 1 + 1, ?_, by omega, hb, by omega, by omega⟩
    refine ev_step (fun k => spec_l3Draw.j1.eq_2 _ _ _ _) (ev_bind (ev_now hp) (ev_bind hps (ev_bind hrt (ev_bind (ev_now rfl) (ev_pos hp0 (ev_pos hpl ?_))))))
    rw [hd]
    exact ev_pos (by simp only [List.length_nil]; omega) (ev_bind (ev_now rfl) (ev_bind (ev_now hv) (ev_pos g0 (ev_pos (by omega) (ev_now rfl)))))
  by_cases g1 : v = 1
  · obtain ⟨q, hq, _⟩ := pick_ok hc (at_ := at_ + 1 + 1) (by omega) (by omega) [0, -1, (ls.length : Int), wrap64 ((ls.length : Int) - 1), 4611686018427387904] (by simp)
    refine ⟨rt, [] ++ dd, q, (ls.length : Int), ps, at_ + 1 + 1 + 1, ?_, by omega, hb, by omega, by omega⟩
    refine ev_step (fun k => spec_l3Draw.j1.eq_2 _ _ _ _) (ev_bind (ev_now hp) (ev_bind hps (ev_bind hrt (ev_bind (ev_now rfl) (ev_pos hp0 (ev_pos hpl ?_))))))
    rw [hd]
    exact ev_pos (by simp only [List.length_nil]; omega) (ev_bind (ev_now rfl) (ev_bind (ev_now hv) (ev_neg g0 (ev_pos g1 (ev_bind (ev_now hq) (ev_now rfl))))))
  by_cases g2 : v = 2
  · obtain ⟨q, hq, _⟩ := pick_ok hc (at_ := at_ + 1 + 1) (by omega) (by omega) [wrap64 ((ls.length : Int) + 1), 0, 17, wrap64 ((ls.length : Int) - 1)] (by simp)
    refine ⟨rt, [] ++ dd, p, q, ps, at_ + 1 + 1 + 1, ?_, by omega, hb, by omega, by omega⟩
    refine ev_step (fun k => spec_l3Draw.j1.eq_2 _ _ _ _) (ev_bind (ev_now hp) (ev_bind hps (ev_bind hrt (ev_bind (ev_now rfl) (ev_pos hp0 (ev_pos hpl ?_))))))
    rw [hd]
    exact ev_pos (by simp only [List.length_nil]; omega) (ev_bind (ev_now rfl) (ev_bind (ev_now hv) (ev_neg g0 (ev_neg g1 (ev_pos g2 (ev_bind (ev_now hq) (ev_now rfl)))))))
  by_cases g3 : v = 3
  · obtain ⟨r, a, hr, hrb, _, ha0, ha1⟩ := some_ok hc 32 (at_ + 1 + 1) (by omega) (by omega) (by omega)
    refine ⟨rt, [] ++ dd, p, (ls.length : Int), ps ++ [r], a, ?_, by rw [List.length_append, List.length_singleton]; omega, add hrb, by omega, by omega⟩
    refine ev_step (fun k => spec_l3Draw.j1.eq_2 _ _ _ _) (ev_bind (ev_now hp) (ev_bind hps (ev_bind hrt (ev_bind (ev_now rfl) (ev_pos hp0 (ev_pos hpl ?_))))))
    rw [hd]
    exact ev_pos (by simp only [List.length_nil]; omega) (ev_bind (ev_now rfl) (ev_bind (ev_now hv) (ev_neg g0 (ev_neg g1 (ev_neg g2 (ev_pos g3 (ev_bind hr (ev_pos (show ps.length < 5864062014805 by omega) (ev_now rfl)))))))))
  by_cases g4 : v = 4
  · by_cases hz : (ps.length : Int) > 0
    · obtain ⟨u, hu, hu0, hu1⟩ := next_ok hc (at_ := at_ + 1 + 1) (by omega) (by omega) 2
      obtain ⟨r, a, hr, hrb, _, ha0, ha1⟩ := some_ok hc (wrap64 (32 - u)) (at_ + 1 + 1 + 1) (by omega) (by omega) (by rw [w64 (by omega) (by omega)]; omega)
      refine ⟨rt, [] ++ dd, p, (ls.length : Int), ps.set (0 : Int).toNat r, a, ?_, by rw [List.length_set]; omega, fun l hm => ?_, by omega, by omega⟩
      · refine ev_step (fun k => spec_l3Draw.j1.eq_2 _ _ _ _) (ev_bind (ev_now hp) (ev_bind hps (ev_bind hrt (ev_bind (ev_now rfl) (ev_pos hp0 (ev_pos hpl ?_))))))
        rw [hd]
        exact ev_pos (by simp only [List.length_nil]; omega) (ev_bind (ev_now rfl) (ev_bind (ev_now hv) (ev_neg g0 (ev_neg g1 (ev_neg g2 (ev_neg g3 (ev_pos g4 (ev_pos hz (ev_bind (ev_now hu) (ev_bind hr (ev_pos (by omega) (ev_now rfl))))))))))))
      · rcases List.mem_or_eq_of_mem_set hm with h | h
        · exact hb l h
        · rw [h]; exact hrb
    · refine ⟨rt, [] ++ dd, p, (ls.length : Int), ps, at_ + 1 + 1, ?_, by omega, hb, by omega, by omega⟩
      refine ev_step (fun k => spec_l3Draw.j1.eq_2 _ _ _ _) (ev_bind (ev_now hp) (ev_bind hps (ev_bind hrt (ev_bind (ev_now rfl) (ev_pos hp0 (ev_pos hpl ?_))))))
      rw [hd]
      exact ev_pos (by simp only [List.length_nil]; omega) (ev_bind (ev_now rfl) (ev_bind (ev_now hv) (ev_neg g0 (ev_neg g1 (ev_neg g2 (ev_neg g3 (ev_pos g4 (ev_neg hz (ev_now rfl)))))))))
  by_cases g5 : v = 5
  · obtain ⟨r, a, hr, hrb, _, ha0, ha1⟩ := some_ok hc 32 (at_ + 1 + 1) (by omega) (by omega) (by omega)
    refine ⟨r, [] ++ dd, p, (ls.length : Int), ps, a, ?_, by omega, hb, by omega, by omega⟩
    refine ev_step (fun k => spec_l3Draw.j1.eq_2 _ _ _ _) (ev_bind (ev_now hp) (ev_bind hps (ev_bind hrt (ev_bind (ev_now rfl) (ev_pos hp0 (ev_pos hpl ?_))))))
    rw [hd]
    exact ev_pos (by simp only [List.length_nil]; omega) (ev_bind (ev_now rfl) (ev_bind (ev_now hv) (ev_neg g0 (ev_neg g1 (ev_neg g2 (ev_neg g3 (ev_neg g4 (ev_pos g5 (ev_bind hr (ev_now rfl))))))))))
  · refine ⟨rt, [] ++ dd, p, (ls.length : Int), ps, at_ + 1 + 1, ?_, by omega, hb, by omega, by omega⟩
    refine ev_step (fun k => spec_l3Draw.j1.eq_2 _ _ _ _) (ev_bind (ev_now hp) (ev_bind hps (ev_bind hrt (ev_bind (ev_now rfl) (ev_pos hp0 (ev_pos hpl ?_))))))
    rw [hd]
    exact ev_pos (by simp only [List.length_nil]; omega) (ev_bind (ev_now rfl) (ev_bind (ev_now hv) (ev_neg g0 (ev_neg g1 (ev_neg g2 (ev_neg g3 (ev_neg g4 (ev_neg g5 (ev_now rfl)))))))))
theorem draw3_ok {c : List Int} (hc : Byt c) {at_ : Int} (h0 : 0 ≤ at_) (h1 : at_ ≤ 1000000) :
    ∃ (t d : List Int) (q0 q1 : Int) (ps : List (List Int)) (a : Int), Ev (fun k => spec_l3Draw.f k c at_) (t, d, q0, q1, ps, a) ∧ ps.length ≤ 17 ∧ (∀ l ∈ ps, Byt l) ∧ 0 ≤ a ∧ a ≤ 901000000 := by
  obtain ⟨ls, a, hl, h2, h3, h4, h5⟩ := leaves_ok hc h0 h1
  have one : FewB [[1]] := ⟨by simp, fun l hm => by rw [List.mem_singleton.1 hm]; exact ⟨byt_one (by omega) (by omega), by simp⟩⟩
  by_cases g0 : (ls.length : Int) = 0
  · obtain ⟨t, d, q0, q1, ps, b, he, hr⟩ := draw3_j1 hc one (by simp) h4 (by omega)
    refine ⟨t, d, q0, q1, ps, b, ?_, hr⟩
    unfold spec_l3Draw.f
    exact ev_bind hl (ev_pos g0 (ev_step (fun k => spec_l3Draw.j0.eq_2 _ _ _ _ _) (ev_pos rfl he)))
  by_cases g1 : (ls.length : Int) > 16
  · obtain ⟨t, d, q0, q1, ps, b, he, hr⟩ := draw3_j1 hc one (by simp) h4 (by omega)
    refine ⟨t, d, q0, q1, ps, b, ?_, hr⟩
    unfold spec_l3Draw.f
    exact ev_bind hl (ev_neg g0 (ev_step (fun k => spec_l3Draw.j0.eq_2 _ _ _ _ _) (ev_pos (decide_eq_true g1) he)))
  · obtain ⟨t, d, q0, q1, ps, b, he, hr⟩ := draw3_j1 hc (ls := ls) ⟨by omega, fun l hm => ⟨(h3 l hm).1, by have := (h3 l hm).2; omega⟩⟩ (by omega) h4 (by omega)
    refine ⟨t, d, q0, q1, ps, b, ?_, hr⟩
    unfold spec_l3Draw.f
    exact ev_bind hl (ev_neg g0 (ev_step (fun k => spec_l3Draw.j0.eq_2 _ _ _ _ _) (ev_neg (fun h => g1 (of_decide_eq_true h)) he)))
theorem drawUp_j0 {c : List Int} (hc : Byt c) {x : List Int} (hx : Byt x) (hl : x.length ≤ 1000) {at_ : Int} (h0 : 0 ≤ at_) (h2 : at_ ≤ 902000000) (b : Bool) (hb : b = true → 0 < x.length) :
    ∃ y, Ev (fun k => spec_DrawUnpackProof.j0 k x b c at_) y ∧ Byt y := by
  cases b with
  | false => exact ⟨x, ev_step (fun k => spec_DrawUnpackProof.j0.eq_2 _ _ _ _ _) (ev_neg (by simp) (ev_now rfl)), hx⟩
  | true =>
    have hp := hb rfl
    obtain ⟨i, hi, hi0, hi1⟩ := next_ok hc h0 (by omega) (x.length : Int)
    obtain ⟨v, hv, hv0, hv1⟩ := next_ok hc (at_ := at_ + 1) (by omega) (by omega) 3
    by_cases g0 : v = 0
    · obtain ⟨u, hu, hu0, hu1⟩ := next_ok hc (at_ := at_ + 1 + 1) (by omega) (by omega) 256
      refine ⟨x.set i.toNat (u % 256), ev_step (fun k => spec_DrawUnpackProof.j0.eq_2 _ _ _ _ _) (ev_pos rfl (ev_bind (ev_now hi) (ev_bind (ev_now hv) (ev_pos g0 (ev_bind (ev_now hu) (ev_pos hi0 (ev_pos (by omega) (ev_now rfl)))))))), fun z hz => ?_⟩
      rcases List.mem_or_eq_of_mem_set hz with h | h
      · exact hx z h
      · omega
    by_cases g1 : v = 1
    · exact ⟨x.take i.toNat, ev_step (fun k => spec_DrawUnpackProof.j0.eq_2 _ _ _ _ _) (ev_pos rfl (ev_bind (ev_now hi) (ev_bind (ev_now hv) (ev_neg g0 (ev_pos g1 (ev_pos hi0 (ev_pos (by omega) (ev_now rfl)))))))), byt_take hx _⟩
    by_cases g2 : v = 2
    · exact ⟨x ++ [0], ev_step (fun k => spec_DrawUnpackProof.j0.eq_2 _ _ _ _ _) (ev_pos rfl (ev_bind (ev_now hi) (ev_bind (ev_now hv) (ev_neg g0 (ev_neg g1 (ev_pos g2 (ev_pos (by omega) (ev_now rfl)))))))), byt_append hx (byt_one (by omega) (by omega))⟩
    · exact ⟨x, ev_step (fun k => spec_DrawUnpackProof.j0.eq_2 _ _ _ _ _) (ev_pos rfl (ev_bind (ev_now hi) (ev_bind (ev_now hv) (ev_neg g0 (ev_neg g1 (ev_neg g2 (ev_now rfl))))))), hx⟩
theorem drawUp_ok {c : List Int} (hc : Byt c) : ∃ x, Ev (fun k => spec_DrawUnpackProof.f k c) x ∧ Byt x := by
  obtain ⟨t, d, q0, q1, ps, a, he, hl, hb, h0, h1⟩ := draw3_ok hc (at_ := 0) (by omega) (by omega)
  obtain ⟨L, hL, _, ss⟩ := sides_any q1 q0
  have hk := spec_PackProof_ev q0 q1 L hL ss ps (by omega)
  have hx : Byt (packProofV q0 q1 L ps).2 := by
    unfold packProofV
    split
    · refine packLB_byt _ (fun w hm => ?_)
      unfold proofW at hm
      rcases List.mem_append.1 hm with h | h
      · simp only [List.mem_cons, List.not_mem_nil, or_false] at h
        rcases h with rfl | rfl
        · exact byt_one (by omega) (by omega)
        · exact byt_one (by omega) (by omega)
      · exact hb w h
    · exact byt_nil
  have hn := packProofV_length (p := q0) (n := q1) (ls := ps) hL
  generalize packProofV q0 q1 L ps = r at *
  obtain ⟨rc, rb⟩ := r
  simp only at hx hn
  by_cases g : (rb.length : Int) > 0
  · obtain ⟨v, hv, hv0, _⟩ := next_ok hc h0 (by omega) 3
    have hch : spec_l1Chance.f c a 3 = some ((v == 0), a + 1) := by
      unfold spec_l1Chance.f
      rw [hv]
      rfl
    obtain ⟨y, hy, hyb⟩ := drawUp_j0 hc hx (by omega) (at_ := a + 1) (by omega) (by omega) (v == 0) (fun _ => by omega)
    refine ⟨y, ?_, hyb⟩
    unfold spec_DrawUnpackProof.f
    exact ev_bind (ev_now (a := spec_l1Source.f c) (r := (c, 0)) rfl) (ev_bind he (ev_bind hk (ev_pos g (ev_bind (ev_now hch) hy))))
  · obtain ⟨y, hy, hyb⟩ := drawUp_j0 hc hx (by omega) h0 (by omega) false (fun h => by cases h)
    refine ⟨y, ?_, hyb⟩
    unfold spec_DrawUnpackProof.f
    exact ev_bind (ev_now (a := spec_l1Source.f c) (r := (c, 0)) rfl) (ev_bind he (ev_bind hk (ev_neg g hy)))
end Go.Proofs.Ytchmaojmknfbpaa.S

/- Words that are unpacked: what the program's and the reference's come to; what is unpacked is packed so again. For all bytes that fit. -/
set_option linter.unusedVariables false
namespace Go.Proofs.Ytchmaojmknfbpaa.S
open Go.RowKit Go.Proofs.YtchmaojmknfbpaaW.PrintWords Go.Proofs.YtchmaojmknfbpaaW.PrintLast Go.Proofs.YtchmaojmknfbpaaW.PrintMore Go.Proofs.Ytchmaojmknfbpaa.Base

def unpL (n : Nat) : Nat → List Int → Int → List (List Int) → Int × Int × List (List Int)
  | 0, _, _, _ => (0, 0, [])
  | _ + 1, [], _, ws => (0, 0, ws)
  | f + 1, c :: d, p, ws => if ws.length = 60 then (2, p, []) else if c > 200 then (3, p, []) else if c > (d.length : Int) then (5, (n : Int), []) else unpL n f (d.drop c.toNat) (p + 1 + c) (ws ++ [d.take c.toNat])
theorem cut_eq (x : List Int) (p c : Nat) (d : List Int) (y : Int) (h : x.drop p = y :: d) : (x.take (p + 1 + c)).drop (p + 1) = d.take c ∧ x.drop (p + 1 + c) = d.drop c := by
  have h1 : x.drop (p + 1) = d := by rw [← List.drop_drop, h]; rfl
  refine ⟨?_, by rw [← List.drop_drop, h1]⟩
  rw [List.drop_take, show p + 1 + c - (p + 1) = c by omega, h1]
theorem unp_fact (x : List Int) (hx : Byt x) (hl : x.length ≤ 4000) (p : Nat) (d : List Int) (c : Int) (h : x.drop p = c :: d) : p < x.length ∧ rd x (p : Int) = c ∧ 0 ≤ c ∧ c ≤ 255 ∧ d.length = x.length - (p + 1) := by
  have hp : p < x.length := by
    rcases Nat.lt_or_ge p x.length with g | g
    · exact g
    · rw [List.drop_of_length_le g] at h
      cases h
  have h2 := h
  rw [List.drop_eq_getElem_cons hp] at h2
  injection h2 with h3 h4
  have hb := hx x[p] (List.getElem_mem _)
  refine ⟨hp, by rw [rd_nat x p hp, h3], by omega, by omega, ?_⟩
  rw [← h4, List.length_drop]
theorem impl_unp_l0 (x : List Int) (hx : Byt x) (hl : x.length ≤ 4000) : ∀ (f p : Nat) (ws : List (List Int)), p ≤ x.length → x.length - p < f → ws.length ≤ 60 → Ev (fun k => impl_UnpackWords.l0 k x ws (p : Int)) (unpL x.length f (x.drop p) (p : Int) ws) := by
  intro f
  induction f with
  | zero => intro p ws h1 h2; omega
  | succ f ih =>
    intro p ws h1 h2 h3
    cases e : x.drop p with
    | nil =>
      have : x.length ≤ p := by
        have := congrArg List.length e
        rw [List.length_drop] at this
        simp at this
        omega
      exact ev_step (fun k => impl_UnpackWords.l0.eq_2 _ _ _ _) (ev_neg (by omega) (ev_now rfl))
    | cons c d =>
      obtain ⟨hp, hr, hc0, hc1, hd⟩ := unp_fact x hx hl p d c e
      refine ev_step (fun k => impl_UnpackWords.l0.eq_2 _ _ _ _) (ev_pos (by omega) (ev_pos (by omega) ?_))
      rw [hr, w64 (n := c) (by omega) (by omega), w64s (by omega), w64 (n := ((p + 1 : Nat) : Int) + c) (by omega) (by omega)]
      unfold unpL
      by_cases g1 : ws.length = 60
      · rw [if_pos g1]; exact ev_pos (by omega) (ev_now rfl)
      rw [if_neg g1]; refine ev_neg (by omega) ?_
      by_cases g2 : c > 200
      · rw [if_pos g2]; exact ev_pos g2 (ev_now rfl)
      rw [if_neg g2]; refine ev_neg g2 ?_
      by_cases g3 : c > (d.length : Int)
      · rw [if_pos g3]; exact ev_pos (by omega) (ev_now rfl)
      rw [if_neg g3]
      refine ev_neg (by omega) (ev_pos (by omega) (ev_pos (by omega) (ev_pos (by omega) ?_)))
      obtain ⟨cn, rfl⟩ := Int.eq_ofNat_of_zero_le hc0
      rw [show (((p + 1 : Nat) : Int) + (cn : Int)) = ((p + 1 + cn : Nat) : Int) by omega, Int.toNat_natCast, Int.toNat_natCast, (cut_eq x p cn d _ e).1, Int.toNat_natCast]
      refine ev_bind (ev_now (show bytes_Clone.f (d.take cn) = some (d.take cn) from by unfold bytes_Clone.f; rw [if_pos (by rw [List.length_take]; omega)])) (ev_pos (by omega) ?_)
      have h := ih (p + 1 + cn) (ws ++ [d.take cn]) (by omega) (by omega) (by simp; omega)
      rw [(cut_eq x p cn d _ e).2] at h
      rw [show (p : Int) + 1 + (cn : Int) = ((p + 1 + cn : Nat) : Int) by omega]
      exact h
def unpackV (x : List Int) : Int × Int × List (List Int) := if x.length > 4000 then (2, 0, []) else unpL x.length (x.length + 1) x 0 []
theorem impl_UnpackWords_ev {x : List Int} (hx : Byt x) : Ev (fun k => impl_UnpackWords.f k x) (unpackV x) := by
  unfold impl_UnpackWords.f unpackV
  by_cases h : x.length > 4000
  · rw [if_pos h]; exact ev_pos (by omega) (ev_now rfl)
  · rw [if_neg h]; exact ev_neg (by omega) (impl_unp_l0 x hx (by omega) (x.length + 1) 0 [] (by omega) (by omega) (by simp))
theorem packL_append : ∀ (a b : List (List Int)), packL (a ++ b) = packL a ++ packL b
  | [], b => rfl
  | w :: a, b => by simp [packL, packL_append a b]
/-- What is unpacked: few words, short ones, of bytes; no code: the bytes are these words'; a code: no words. -/
theorem unpL_ok (n : Nat) : ∀ (f : Nat) (d : List Int) (p : Int) (ws : List (List Int)), Byt d → d.length < f → (∀ w ∈ ws, Byt w ∧ w.length ≤ 200) → ws.length ≤ 60 → 0 ≤ p → p + d.length = n →
    (∀ w ∈ (unpL n f d p ws).2.2, Byt w ∧ w.length ≤ 200) ∧ (unpL n f d p ws).2.2.length ≤ 60 ∧ ((unpL n f d p ws).1 = 0 → packL (unpL n f d p ws).2.2 = packL ws ++ d) ∧ ((unpL n f d p ws).1 ≠ 0 → (unpL n f d p ws).2.2 = [] ∧ (unpL n f d p ws).2.1 ≤ n) ∧ ((unpL n f d p ws).1 = 0 → (unpL n f d p ws).2.1 = 0) := by
  intro f
  induction f with
  | zero => intro d p ws _ h; omega
  | succ f ih =>
    intro d p ws hd hf hw hl hp hn
    cases d with
    | nil => exact ⟨hw, hl, fun _ => by show packL ws = packL ws ++ []; rw [List.append_nil], fun h => absurd rfl h, fun _ => rfl⟩
    | cons c d =>
      have hc := hd c List.mem_cons_self
      have hd2 : Byt d := fun x hx => hd x (List.mem_cons_of_mem _ hx)
      simp only [List.length_cons] at hf hn
      unfold unpL
      by_cases g1 : ws.length = 60
      · rw [if_pos g1]
        exact ⟨fun w h => (by cases h), by simp, fun h => absurd (show (2 : Int) = 0 from h) (by decide), fun _ => ⟨rfl, by show p ≤ (n : Int); omega⟩, fun h => absurd (show (2 : Int) = 0 from h) (by decide)⟩
      rw [if_neg g1]
      by_cases g2 : c > 200
      · rw [if_pos g2]
        exact ⟨fun w h => (by cases h), by simp, fun h => absurd (show (3 : Int) = 0 from h) (by decide), fun _ => ⟨rfl, by show p ≤ (n : Int); omega⟩, fun h => absurd (show (3 : Int) = 0 from h) (by decide)⟩
      rw [if_neg g2]
      by_cases g3 : c > (d.length : Int)
      · rw [if_pos g3]
        exact ⟨fun w h => (by cases h), by simp, fun h => absurd (show (5 : Int) = 0 from h) (by decide), fun _ => ⟨rfl, by show (n : Int) ≤ (n : Int); omega⟩, fun h => absurd (show (5 : Int) = 0 from h) (by decide)⟩
      rw [if_neg g3]
      obtain ⟨cn, rfl⟩ := Int.eq_ofNat_of_zero_le hc.1
      rw [Int.toNat_natCast]
      have ht : (d.take cn).length = cn := by rw [List.length_take]; omega
      have := ih (d.drop cn) (p + 1 + (cn : Int)) (ws ++ [d.take cn]) (byt_drop hd2 cn) (by rw [List.length_drop]; omega) (fun w hw2 => by
        rcases List.mem_append.1 hw2 with h | h
        · exact hw w h
        · rw [List.mem_singleton.1 h]
          exact ⟨byt_take hd2 cn, by omega⟩) (by simp; omega) (by omega) (by rw [List.length_drop]; omega)
      obtain ⟨a1, a2, a3, a4, a5⟩ := this
      refine ⟨a1, a2, fun h => ?_, a4, a5⟩
      rw [a3 h, packL_append]
      have e1 : packL [d.take cn] = ((cn : Int)) :: d.take cn := by
        show ((((d.take cn).length : Int) % 256) :: d.take cn) ++ [] = _
        rw [ht, List.append_nil, Int.emod_eq_of_lt (by omega) (by omega)]
      rw [e1, List.append_assoc, List.cons_append, List.take_append_drop]
theorem unpackV_ok {x : List Int} (hx : Byt x) : (∀ w ∈ (unpackV x).2.2, Byt w ∧ w.length ≤ 200) ∧ (unpackV x).2.2.length ≤ 60 ∧ ((unpackV x).1 = 0 → packL (unpackV x).2.2 = x) ∧ ((unpackV x).1 ≠ 0 → (unpackV x).2.2 = [] ∧ (unpackV x).2.1 ≤ x.length) ∧ ((unpackV x).1 = 0 → (unpackV x).2.1 = 0) := by
  unfold unpackV
  by_cases h : x.length > 4000
  · rw [if_pos h]
    exact ⟨fun w h => (by cases h), by simp, fun h => absurd (show (2 : Int) = 0 from h) (by decide), fun _ => ⟨rfl, by show (0 : Int) ≤ _; omega⟩, fun h => absurd (show (2 : Int) = 0 from h) (by decide)⟩
  · rw [if_neg h]
    have := unpL_ok x.length (x.length + 1) x 0 [] hx (by omega) (fun w h => (by cases h)) (by simp) (by omega) (by omega)
    exact this
end Go.Proofs.Ytchmaojmknfbpaa.S

/- Words that are unpacked: what the program's and the reference's come to; what is unpacked is packed so again. For all bytes that fit. -/
set_option linter.unusedVariables false
namespace Go.Proofs.Ytchmaojmknfbpaa.S
open Go.RowKit Go.Proofs.YtchmaojmknfbpaaW.PrintWords Go.Proofs.YtchmaojmknfbpaaW.PrintLast Go.Proofs.YtchmaojmknfbpaaW.PrintMore Go.Proofs.Ytchmaojmknfbpaa.Base

theorem spec_unp_l0 (x : List Int) (hx : Byt x) (hl : x.length ≤ 4000) : ∀ (f p : Nat) (ws : List (List Int)), p ≤ x.length → x.length - p < f → ws.length ≤ 60 → Ev (fun k => spec_UnpackWords.l0 k x (p : Int) 0 0 ws) (unpL x.length f (x.drop p) (p : Int) ws) := by
  intro f
  induction f with
  | zero => intro p ws h1 h2; omega
  | succ f ih =>
    intro p ws h1 h2 h3
    cases e : x.drop p with
    | nil =>
      have : x.length ≤ p := by
        have := congrArg List.length e
        rw [List.length_drop] at this
        simp at this
        omega
      exact ev_step (fun k => spec_UnpackWords.l0.eq_2 _ _ _ _ _ _) (ev_neg (by omega) (ev_now rfl))
    | cons c d =>
      obtain ⟨hp, hr, hc0, hc1, hd⟩ := unp_fact x hx hl p d c e
      refine ev_step (fun k => spec_UnpackWords.l0.eq_2 _ _ _ _ _ _) (ev_pos (by omega) (ev_pos (by omega) ?_))
      rw [hr, w64 (n := c) (by omega) (by omega), w64s (by omega), w64 (n := ((p + 1 : Nat) : Int) + c) (by omega) (by omega)]
      unfold unpL
      by_cases g1 : ws.length = 60
      · rw [if_pos g1]; exact ev_pos (by omega) (ev_now rfl)
      rw [if_neg g1]; refine ev_neg (by omega) ?_
      by_cases g2 : c > 200
      · rw [if_pos g2]; exact ev_pos g2 (ev_now rfl)
      rw [if_neg g2]; refine ev_neg g2 ?_
      by_cases g3 : c > (d.length : Int)
      · rw [if_pos g3]; exact ev_pos (by omega) (ev_now rfl)
      rw [if_neg g3]
      refine ev_neg (by omega) (ev_bind (ev_now rfl) (ev_pos (by omega) (ev_pos (by omega) (ev_pos (by omega) ?_))))
      obtain ⟨cn, rfl⟩ := Int.eq_ofNat_of_zero_le hc0
      rw [show (((p + 1 : Nat) : Int) + (cn : Int)) = ((p + 1 + cn : Nat) : Int) by omega, Int.toNat_natCast, Int.toNat_natCast, (cut_eq x p cn d _ e).1, Int.toNat_natCast]
      refine ev_pos (by rw [List.length_take]; simp; omega) (ev_pos (by omega) ?_)
      have h := ih (p + 1 + cn) (ws ++ [d.take cn]) (by omega) (by omega) (by simp; omega)
      rw [(cut_eq x p cn d _ e).2] at h
      rw [show (p : Int) + 1 + (cn : Int) = ((p + 1 + cn : Nat) : Int) by omega, List.nil_append]
      exact h
theorem spec_UnpackWords_ev {x : List Int} (hx : Byt x) : Ev (fun k => spec_UnpackWords.f k x) (unpackV x) := by
  unfold spec_UnpackWords.f unpackV
  by_cases h : x.length > 4000
  · rw [if_pos h]; exact ev_pos (by omega) (ev_now rfl)
  · rw [if_neg h]; exact ev_neg (by omega) (spec_unp_l0 x hx (by omega) (x.length + 1) 0 [] (by omega) (by omega) (by simp))
end Go.Proofs.Ytchmaojmknfbpaa.S

/- Rows of rows of the call's own, no two of which share memory; where in memory they lie; what the laws' marks make of them. No condition beyond those in the statements. -/
set_option linter.unusedVariables false
set_option linter.unusedSimpArgs false
namespace Go.Proofs.Ytchmaojmknfbpaa.S
open Go Go.RowKit Go.Proofs.YtchmaojmknfbpaaW.PrintWords Go.Proofs.YtchmaojmknfbpaaW.PrintLast Go.Proofs.YtchmaojmknfbpaaW.PrintMore Go.Proofs.Ytchmaojmknfbpaa.Base

def In (lo hi : Nat) : Nat → Prop := fun k => lo ≤ k ∧ k < hi
theorem In_apart {lo hi a b : Nat} (h : hi ≤ a ∨ b ≤ lo) : ∀ k, In lo hi k → ¬ In a b k := fun k h1 h2 => by
  unfold In at h1 h2
  omega
theorem add_block (ad : Addr) (i : Nat) : (ad.add i).block = ad.block := by
  unfold Addr.add
  split <;> rfl
/-- Rows of bytes, each its own memory, all between lo and hi. -/
def AR (base : Nat) (w : World) (lo hi : Nat) (A : Option Addr) (ls : List (List Int)) : Prop :=
  ls.length ≤ 9223372036854775807 ∧ (ls = [] ∨ ∃ (ad : Addr) (vs : Nat → Value), A = some ad ∧ (lo ≤ ad.block ∧ ad.block < hi) ∧
    (∀ i, (h : i < ls.length) → w.cell? (ad.add i) = some (vs i) ∧ Kd.R (Kd.int .u8) 5 w base (fun k => some k = (vs i).ownBlock) (vs i) ls[i]) ∧
    (∀ i k, i < ls.length → (vs i).ownBlock = some k → (lo ≤ k ∧ k < hi) ∧ k ≠ ad.block) ∧
    (∀ i j k, i < ls.length → j < ls.length → i ≠ j → (vs i).ownBlock = some k → (vs j).ownBlock ≠ some k))
section
variable {base lo hi a b : Nat} {w w1 : World} {A : Option Addr} {ls : List (List Int)}
theorem AR.below (h : AR base w lo hi A ls) (hb : Below w.heap.size w w1) : AR base w1 lo hi A ls := by
  refine ⟨h.1, h.2.imp id ?_⟩
  rintro ⟨ad, vs, hA, hg, hr, hin, hap⟩
  exact ⟨ad, vs, hA, hg, fun i hi => ⟨(hb.cell (World.block_lt_of_cell? w _ (hr i hi).1)).trans (hr i hi).1, Kd.R_below (hr i hi).2 hb⟩, hin, hap⟩
theorem AR.kept (h : AR base w lo hi A ls) (hk : Kept w w1 (In a b)) (hd : hi ≤ a ∨ b ≤ lo) : AR base w1 lo hi A ls := by
  refine ⟨h.1, h.2.imp id ?_⟩
  rintro ⟨ad, vs, hA, hg, hr, hin, hap⟩
  exact ⟨ad, vs, hA, hg, fun i hi => ⟨cell_kept (hr i hi).1 hk (by rw [add_block]; exact In_apart hd _ hg), Kd.R_kept (hr i hi).2 hk (fun k hk2 => In_apart hd k (hin i k hi hk2.symm).1)⟩, hin, hap⟩
theorem AR.foot (h : AR base w lo hi A ls) : Kd.F (Kd.slice 5 (Kd.int .u8)) w (In lo hi) A ls.length ls := fun W' hW => by
  refine ⟨rfl, h.1, fun hp => ?_⟩
  rcases h.2 with rfl | ⟨ad, vs, hA, hg, hr, hin, hap⟩
  · simp at hp
  refine ⟨ad, hA, fun j p hj => ?_⟩
  obtain ⟨hjl, hpj⟩ := List.getElem?_eq_some_iff.1 hj
  obtain ⟨hc, hR⟩ := hr j hjl
  have hR2 : Kd.R (Kd.int .u8) 5 W' base (fun k => some k = (vs j).ownBlock) (vs j) ls[j] := Kd.R_step hR (fun k ho hlt => hW k (hin j k hjl ho.symm).1 hlt)
  rw [hpj] at hR2
  obtain ⟨A', c', hv⟩ := Kd.R_slice hR2
  rw [hv] at hR2
  obtain ⟨_, h2, h3⟩ := Kd.R_reads' hR2
  refine ⟨[vs j], rfl, ⟨A', c', by rw [hv], h2, h3⟩, fun i u hu => ?_⟩
  cases i with
  | zero =>
    have e1 : vs j = u := by simpa using hu
    rw [← e1]
    show W'.cell? (ad.add (j * 1 + 0)) = _
    rw [Nat.mul_one, Nat.add_zero]
    have hb := hW ad.block hg (by have := World.block_lt_of_cell? w _ hc; rwa [add_block] at this)
    rw [← hc]
    unfold World.cell?
    rw [add_block, hb]
  | succ i => simp at hu
/-- A cut of such rows. -/
theorem AR.drop (h : AR base w lo hi A ls) (m c : Nat) (hm : m ≤ ls.length) (hc : ls.length ≤ c) : AR base w lo hi (if c = m then A else A.map (·.add m)) (ls.drop m) := by
  refine ⟨by have := h.1; rw [List.length_drop]; omega, ?_⟩
  rcases h.2 with rfl | ⟨ad, vs, hA, hg, hr, hin, hap⟩
  · exact .inl (by simp)
  by_cases hz : ls.length = m
  · exact .inl (List.drop_of_length_le (by omega))
  refine .inr ⟨ad.add m, fun i => vs (m + i), by rw [if_neg (by omega), hA]; rfl, by rw [add_block]; exact hg, fun i hi => ?_, fun i k hi hk => ?_, fun i j k hi hj hij hk => ?_⟩
  · have hi2 : m + i < ls.length := by rw [List.length_drop] at hi; omega
    obtain ⟨h1, h2⟩ := hr (m + i) hi2
    have ha : (ad.add m).add i = ad.add (m + i) := by
      unfold Addr.add
      by_cases h1 : m = 0 <;> by_cases h2 : i = 0 <;> simp [h1, h2, Nat.add_assoc]
    refine ⟨by rw [ha]; exact h1, ?_⟩
    rw [List.getElem_drop]
    exact h2
  · rw [List.length_drop] at hi
    rw [add_block]
    exact hin (m + i) k (by omega) hk
  · rw [List.length_drop] at hi hj
    exact hap (m + i) (m + j) k (by omega) (by omega) (by omega) hk
theorem AR.nil (base : Nat) (w : World) (lo hi : Nat) (A : Option Addr) : AR base w lo hi A [] := ⟨by simp, .inl rfl⟩
end
/-- What the printed walks call apart is so. -/
theorem AR_of_S {e base base0 : Nat} {ok : Nat → Prop} {w : World} {v : Value} {ls : List (List Int)} (h : Kd.S (Kd.slice 5 (Kd.int .u8)) e w base0 ok v ls) (hb : base ≤ base0) :
    ∃ A c, v = .slice A ls.length c ∧ ls.length ≤ c ∧ AR base w base0 w.heap.size A ls := by
  have hR := Kd.S_R h
  obtain ⟨A, c, rfl⟩ := Kd.R_slice hR
  obtain ⟨_, hc, hC⟩ := Kd.R_reads' hR
  refine ⟨A, c, rfl, hc, hC.2.1, ?_⟩
  by_cases hz : ls = []
  · exact .inl hz
  have hp : 0 < ls.length := by cases ls with
    | nil => exact absurd rfl hz
    | cons x l => simp
  obtain ⟨f, hf⟩ := h
  obtain ⟨g, cap, hv, hg0, hg1, cells, hcells⟩ := Kd.R_form hR hp
  injection hv with hv1 hv2 hv3
  subst hv1
  have each : ∀ i, (hi : i < ls.length) → ∃ u, w.cell? ⟨g, i, none⟩ = some u ∧ Kd.R (Kd.int .u8) 5 w base0 (fun k => (ok k ∧ k ≠ g) ∧ f k = i) u ls[i] := fun i hi => by
    obtain ⟨cs, hcl, hM, hcc, _⟩ := Kd.R_elem (d := Kd.tag f (Kd.slice 5 (Kd.int .u8))) hf ([], 0) (i : Int) (by omega) (by omega)
    have e1 : ls.zipIdx.getD (i : Int).toNat ([], 0) = (ls[i], i) := by
      rw [Int.toNat_natCast, List.getD_eq_getElem?_getD, Kd.zip_at (List.getElem?_eq_getElem hi)]
      rfl
    rw [e1] at hM
    obtain ⟨u, rfl, hu⟩ := hM
    refine ⟨u, ?_, hu⟩
    have h1 := hcc 0 u rfl
    rw [Int.toNat_natCast] at h1
    have h2 : w.cell? ⟨g, i * 1 + 0, none⟩ = some u := h1
    rwa [Nat.mul_one, Nat.add_zero] at h2
  refine .inr ⟨⟨g, 0, none⟩, fun i => (w.cell? ⟨g, i, none⟩).getD (.bool false), rfl, ⟨hg0, hg1⟩, fun i hi => ?_, fun i k hi hk => ?_, fun i j k hi hj hij hk hk2 => ?_⟩
  · obtain ⟨u, hu, hr⟩ := each i hi
    rw [add_plain]
    simp only [hu, Option.getD_some]
    exact ⟨trivial, Kd.R_lower (Kd.R_tight rfl hr) hb⟩
  · obtain ⟨u, hu, hr⟩ := each i hi
    simp only [hu, Option.getD_some] at hk
    have := (Kd.R_bound hr).1 k hk
    exact ⟨⟨this.2.1, this.2.2.1⟩, this.1.1.2⟩
  · obtain ⟨u, hu, hr⟩ := each i hi
    obtain ⟨u2, hu2, hr2⟩ := each j hj
    simp only [hu, Option.getD_some] at hk
    simp only [hu2, Option.getD_some] at hk2
    have h1 := (hr.1 k hk).2
    have h2 := (hr2.1 k hk2).2
    omega
end Go.Proofs.Ytchmaojmknfbpaa.S
namespace Go.Proofs.Ytchmaojmknfbpaa.S
open Go Go.RowKit Go.Proofs.YtchmaojmknfbpaaW.PrintWords Go.Proofs.YtchmaojmknfbpaaW.PrintLast Go.Proofs.YtchmaojmknfbpaaW.PrintMore Go.Proofs.Ytchmaojmknfbpaa.Base
/-- Where a walk stands still: its goal under a word. -/
def Hold (p : Prop) : Prop := p
theorem hold_here {p : Prop} (h : Hold p) : p := h
theorem hold_go {p : Prop} (h : p) : Hold p := h
theorem AR.drew {base lo hi : Nat} {w : World} {A : Option Addr} {ls : List (List Int)} (h : AR base w lo hi A ls) : AR base w.drew lo hi A ls := h.below (below_drew1 (Below.refl _ _))
/-- A row of bytes of the call's own, between lo and hi. -/
theorem B_of_R {e base base0 : Nat} {ok : Nat → Prop} {w : World} {v : Value} {xs : List Int} (h : Kd.R (Kd.int .u8) e w base0 ok v xs) (hb : base ≤ base0) :
    ∃ A c, v = .slice A xs.length c ∧ Kd.R (Kd.int .u8) e w base (In base0 w.heap.size) (.slice A xs.length c) xs := by
  obtain ⟨A, c, rfl⟩ := Kd.R_slice h
  exact ⟨A, c, rfl, Kd.R_lower (Kd.R_mono (Kd.R_bound h) (fun k hk => ⟨hk.2.1, hk.2.2.1⟩)) hb⟩
theorem B_kept {e base lo hi a b : Nat} {w w1 : World} {v : Value} {xs : List Int} (h : Kd.R (Kd.int .u8) e w base (In lo hi) v xs) (hk : Kept w w1 (In a b)) (hd : hi ≤ a ∨ b ≤ lo) : Kd.R (Kd.int .u8) e w1 base (In lo hi) v xs := Kd.R_kept h hk (In_apart hd)
theorem blk_keptIn {g a b : Nat} {w w1 : World} {o : Obj} (h : w.heap[g]? = some o) (hk : Kept w w1 (In a b)) (hd : g < a ∨ b ≤ g) : w1.heap[g]? = some o := blk_kept h hk (fun h2 => by unfold In at h2; omega)
theorem row_store {P : Program} {ops : Array Oper} {rest : List Oper} {o : Oper} {a : Act} {w w0 : World} {B : Nat} {Q : Exit → Act → World → Prop} (hgd : o.guard = none) (ty : TypeId) (x y : Operand) (ho : o.op = .store ty x y)
    (g : Nat) (cells : Array Value) (hx : a.eval x = .pointer (some ⟨g, 0, none⟩)) (hy : a.eval y = .agg cells)
    (t : TypeId) (old : Array Value) (hg : w.heap[g]? = some (.cells old t (0, 0))) (hi : (P.info? ty).map (·.size) = some cells.size)
    (hold : old.size = cells.size) (h1 : cells.all (·.oneCell') = true) (hd : o.dst = none) (hb : Below B w0 w) (hB : B ≤ g)
    (h : ∀ w1 : World, w1.heap[g]? = some (.cells cells t (0, 0)) → Kept w w1 (In g (g + 1)) → Below B w0 w1 → wpList P ops Q rest a w1) : wpList P ops Q (o :: rest) a w := by
  refine wpList_store_row hgd ty x y ho g cells hx hy t old hg hi hold h1 ?_
  rw [hd]
  exact h _ (setRow_heap w g old cells t (0, 0) hg) ⟨by simp [World.setRow], fun k hk hn => setRow_other w g k cells (fun e => hn (by subst e; exact ⟨Nat.le_refl _, Nat.lt_succ_self _⟩))⟩ (below_setRow hb hB cells)
end Go.Proofs.Ytchmaojmknfbpaa.S

/- Steps of regions that draw their order: a box made, a struct stored, a whole array loaded; words that are read. No condition beyond those in the statements. -/
set_option linter.unusedVariables false
set_option linter.unusedSimpArgs false
namespace Go.Proofs.Ytchmaojmknfbpaa.S
open Go Go.RowKit Go.Proofs.YtchmaojmknfbpaaW.PrintWords Go.Proofs.YtchmaojmknfbpaaW.PrintLast Go.Proofs.YtchmaojmknfbpaaW.PrintMore Go.Proofs.Ytchmaojmknfbpaa.Base

theorem box_stepK {P : Program} {ops : Array Oper} {Q : Exit → Act → World → Prop} {oi : Oper} {N : Option Tmp} {a : Act} {W : World} {K : Act → World → Prop} {cs : Array Value} {t : TypeId} (hw : Region.wanted oi (yielded ops a.tmps) = true) (hN : oi.dst = N)
    (hrun : (execOp a.eval oi).run P W = .ok (.value (.pointer (some ⟨W.heap.size, 0, none⟩))) (W.alloc (.cells cs t (0, 0))))
    (h : ∀ g, g = W.heap.size → ∀ w1, w1.heap[g]? = some (.cells cs t (0, 0)) → Below W.heap.size W w1 → K (a.put N (.pointer (some ⟨g, 0, none⟩))) w1) : if Region.wanted oi (yielded ops a.tmps) = true then Oper.wp P oi a W K Q else K (a.put N undef) W :=
  value_ hw hN hrun (h _ rfl _ (blk_new W _) (below_alloc (Below.refl _ _) _))
theorem row_stepK {P : Program} {ops : Array Oper} {Q : Exit → Act → World → Prop} {o : Oper} {a : Act} {w w0 : World} {B : Nat} {K : Act → World → Prop} (hw : Region.wanted o (yielded ops a.tmps) = true) (ty : TypeId) (x y : Operand) (ho : o.op = .store ty x y)
    (g : Nat) (cells : Array Value) (hx : a.eval x = .pointer (some ⟨g, 0, none⟩)) (hy : a.eval y = .agg cells)
    (t : TypeId) (old : Array Value) (hg : w.heap[g]? = some (.cells old t (0, 0))) (hi : (P.info? ty).map (·.size) = some cells.size)
    (hold : old.size = cells.size) (h1 : cells.all (·.oneCell') = true) (hd : o.dst = none) (hb : Below B w0 w) (hB : B ≤ g)
    (h : ∀ w1 : World, w1.heap[g]? = some (.cells cells t (0, 0)) → Kept w w1 (In g (g + 1)) → Below B w0 w1 → K a w1) : if Region.wanted o (yielded ops a.tmps) = true then Oper.wp P o a w K Q else K (a.put none undef) w := by
  rw [if_pos hw]
  refine wp_store_row ty x y ho g cells hx hy t old hg hi hold h1 ?_
  rw [hd]
  exact h _ (setRow_heap w g old cells t (0, 0) hg) ⟨by simp [World.setRow], fun k hk hn => setRow_other w g k cells (fun e => hn (by subst e; exact ⟨Nat.le_refl _, Nat.lt_succ_self _⟩))⟩ (below_setRow hb hB cells)
theorem word_at {w : World} {A : Option Addr} {ls : List (List Int)} (h : Kd.C (Kd.slice 5 (Kd.int .u8)) w A ls.length ls) (i : Nat) (hi : i < ls.length) : ∃ ad A0 c0, A = some ad ∧ w.cell? (ad.add i) = some (.slice A0 (ls[i]!).length c0) ∧ (ls[i]!).length ≤ c0 ∧ (Kd.int .u8).C w A0 (ls[i]!).length (ls[i]!) := by
  rw [getElem!_pos ls i hi]
  obtain ⟨ad, c, e, _, hK, hc0⟩ := Kd.C_get h ([] : List Int) (i : Int) (by omega) (by omega)
  have hc : ∀ j u, c[j]? = some u → w.cell? (ad.add (i * 1 + j)) = some u := hc0
  rw [Int.toNat_natCast, List.getD_eq_getElem?_getD, List.getElem?_eq_getElem hi, Option.getD_some] at hK
  obtain ⟨A0, c0, rfl, l0, g0⟩ := hK
  exact ⟨ad, A0, c0, e, by have hq := hc 0 _ rfl; rwa [Nat.mul_one, Nat.add_zero] at hq, l0, g0⟩
theorem byte_at {w : World} {A : Option Addr} {n : Nat} {x : Int} (h : (Kd.int .u8).C w A n [x]) : ∃ ad, A = some ad ∧ w.cell? ad = some (.int .u8 x) := by
  have hn : n = 1 := h.1.symm
  subst hn
  obtain ⟨ad, e, hc⟩ := Kd.at_int h 0 (by omega) (by omega)
  exact ⟨ad, e, by have h2 : w.cell? (ad.add 0) = _ := hc; rw [Addr.add_zero'] at h2; exact h2⟩
theorem AR.grow {base lo hi lo2 hi2 : Nat} {w : World} {A : Option Addr} {ls : List (List Int)} (h : AR base w lo hi A ls) (ha : lo2 ≤ lo) (hb : hi ≤ hi2) : AR base w lo2 hi2 A ls := by
  refine ⟨h.1, h.2.imp id ?_⟩
  rintro ⟨ad, vs, hA, hg, hr, hin, hap⟩
  exact ⟨ad, vs, hA, ⟨by omega, by omega⟩, hr, fun i k hi hk => ⟨⟨by have := (hin i k hi hk).1; omega, by have := (hin i k hi hk).1; omega⟩, (hin i k hi hk).2⟩, hap⟩
theorem AR.lower {base base2 lo hi : Nat} {w : World} {A : Option Addr} {ls : List (List Int)} (h : AR base w lo hi A ls) (hb : base2 ≤ base) : AR base2 w lo hi A ls := by
  refine ⟨h.1, h.2.imp id ?_⟩
  rintro ⟨ad, vs, hA, hg, hr, hin, hap⟩
  exact ⟨ad, vs, hA, hg, fun i hi => ⟨(hr i hi).1, Kd.R_lower (hr i hi).2 hb⟩, hin, hap⟩
end Go.Proofs.Ytchmaojmknfbpaa.S

/- The walk over impl.UnpackProof: what it answers, way by way. No condition beyond those in the statements. -/
set_option linter.unusedVariables false
set_option linter.unusedSimpArgs false
namespace Go.Proofs.Ytchmaojmknfbpaa.S
open Go Go.RowKit Go.Proofs.YtchmaojmknfbpaaW.PrintWords Go.Proofs.YtchmaojmknfbpaaW.PrintLast Go.Proofs.YtchmaojmknfbpaaW.PrintMore Go.Proofs.Ytchmaojmknfbpaa.Base
attribute [local go_sem] max2_int min2_int max_two min_two max_three min_three max_four min_four

set_option maxHeartbeats 80000000 in
set_option maxRecDepth 100000 in
theorem impl_UnpackProof_A (ku : Nat) (A0 : Option Addr) (c0 : Nat) (l0 : List Int) (q0 q1 : Int) (W : List (List Int)) (w : World) (hr0 : Kd.C (Kd.int .u8) w A0 l0.length l0) (hc0 : l0.length ≤ c0) (h_u : impl_UnpackWords.f ku l0 = some (q0, q1, W)) (h_n : W.length < 2) :
    Calls Try.prog 28 #[.slice A0 l0.length c0] w fun e w' => ∃ A c, e = .returned (.agg #[.int .i64 5, .int .i64 0, .int .i64 0, .slice A ([] : List (List Int)).length c]) ∧ ([] : List (List Int)).length ≤ c ∧ AR w.heap.size w' w.heap.size w'.heap.size A ([] : List (List Int)) ∧ Below w.heap.size w w' := by
  have hu1_ := Try.underlying53
  have hu2_ := Try.underlying25
  have hu3_ := Try.underlying72
  have HR0 := Aside0.mk hr0
  have HC0 := Aside0.mk hc0
  have H_u := Aside0.mk h_u
  have H_n := Aside0.mk h_n
  have HB := Aside0.mk (Below.refl w.heap.size w)
  have ZZ := Aside0.mk (Nat.le_refl w.heap.size)
  have hfd_2 := fun (a0 a1 a2 : Value) (w : World) => (show (Instr.field 72 (.agg #[a0, a1, a2]) 2).run Try.prog w = .ok a2 w from by kernel_rfl)
  have cn0_ : decide ((W.length : Int) < 2) = true := decide_eq_true (by omega)
  have cn1_ : decide (W.length < 2) = true := decide_eq_true h_n
  clear hr0 hc0 h_u h_n
  go_enter Try.func28, Try.ntmps28
  go_wp2_with (first | ((with_reducible refine gate_dst (N := 2) rfl ?_); refine hold_here ?_))
  refine hold_go ?_
  refine box_event (N := 2) (cs := #[.int .i64 0, .int .i64 0, .int .i64 0, .slice none 0 0]) (t := 53) ?hgb rfl ?hrb ?_
  case hgb => rfl
  case hrb => first | (go_simp; done) | (go_simp; rfl)
  intro g2_ hg w1_ hbox hb
  replace HB := Aside0.mk (below_step HB.out hb)
  replace ZZ := Aside0.mk (And.intro ZZ.out (show w.heap.size ≤ w1_.heap.size from hb.size))
  have BK2 := Aside0.mk hbox
  replace ZZ := Aside0.mk (And.intro ZZ.out (And.intro (show g2_ = w.heap.size from hg) (show g2_ < w1_.heap.size from blk_lt hbox)))
  clear hb hbox hg
  go_wp2_with (first | (go_at_call 53; refine hold_here ?_))
  refine hold_go ?_
  refine (impl_UnpackWords.calls _ A0 c0 l0 q0 q1 W _ ?s1 ?s2 H_u.out).mono ?_
  case s1 => exact Kd.C_below HR0.out HB.out
  case s2 => exact HC0.out
  rintro e w2_ ⟨v, rfl, ho, hb⟩
  replace BK2 := Aside0.mk (blk_below BK2.out hb)
  replace HB := Aside0.mk (below_step HB.out hb)
  replace ZZ := Aside0.mk (And.intro ZZ.out (show w1_.heap.size ≤ w2_.heap.size from hb.size))
  obtain ⟨A_WS, c_WS, ev_, hc_WS, hA_WS⟩ := AR_of_S (base := w.heap.size) ho (show w.heap.size ≤ w1_.heap.size from (by have h_ := ZZ.out; omega))
  subst ev_
  have HC_WS := Aside0.mk hc_WS
  have WS := Aside0.mk (show AR w.heap.size w2_ w1_.heap.size w2_.heap.size A_WS W from hA_WS)
  clear hc_WS hA_WS ho
  clear hb
  go_wp2_with (first | ((with_reducible refine gate_store (t := 53) (p := 2) (v := .tmp 25) rfl ?_); refine hold_here ?_))
  refine hold_go ?_
  refine row_store rfl 53 (.tmp 2) (.tmp 25) rfl g2_ #[.int .i64 5, .int .i64 0, .int .i64 0, .slice none 0 0] rfl ?hy 53 _ BK2.out ?hi ?ho ?h1 rfl HB.out (show w.heap.size ≤ g2_ from (by have h_ := ZZ.out; omega)) ?_
  case hy => rfl
  case hi => kernel_rfl
  case ho => rfl
  case h1 => first | rfl | (simp [Value.oneCell']; done) | (go_simp; done)
  intro w3_ bo hk hb2
  clear BK2
  replace WS := Aside0.mk (AR.kept WS.out hk (by have h_ := ZZ.out; omega))
  replace HB := Aside0.mk hb2
  replace ZZ := Aside0.mk (And.intro ZZ.out (show w2_.heap.size ≤ w3_.heap.size from hk.1))
  have BK2 := Aside0.mk bo
  clear bo hk hb2
  go_wp2
  refine bodyPost_ret (results_cell_row rfl _ _ g2_ 53 #[.int .i64 5, .int .i64 0, .int .i64 0, .slice none 0 0] (0, 0) _ rfl BK2.out Try.underlying53 rfl (by kernel_rfl)) rfl ?_
  exact ⟨none, 0, rfl, Nat.le_refl _, AR.nil _ _ _ _ _, HB.out⟩
set_option maxHeartbeats 80000000 in
set_option maxRecDepth 100000 in
theorem impl_UnpackProof_B (ku : Nat) (A0 : Option Addr) (c0 : Nat) (l0 : List Int) (q0 q1 : Int) (W : List (List Int)) (w : World) (hr0 : Kd.C (Kd.int .u8) w A0 l0.length l0) (hc0 : l0.length ≤ c0) (h_u : impl_UnpackWords.f ku l0 = some (q0, q1, W)) (h_n : 2 ≤ W.length) (h_b : W[0]!.length ≠ 1) :
    Calls Try.prog 28 #[.slice A0 l0.length c0] w fun e w' => ∃ A c, e = .returned (.agg #[.int .i64 5, .int .i64 0, .int .i64 0, .slice A ([] : List (List Int)).length c]) ∧ ([] : List (List Int)).length ≤ c ∧ AR w.heap.size w' w.heap.size w'.heap.size A ([] : List (List Int)) ∧ Below w.heap.size w w' := by
  have hu1_ := Try.underlying53
  have hu2_ := Try.underlying25
  have hu3_ := Try.underlying72
  have HR0 := Aside0.mk hr0
  have HC0 := Aside0.mk hc0
  have H_u := Aside0.mk h_u
  have H_n := Aside0.mk h_n
  have H_b := Aside0.mk h_b
  have HB := Aside0.mk (Below.refl w.heap.size w)
  have ZZ := Aside0.mk (Nat.le_refl w.heap.size)
  have hfd_2 := fun (a0 a1 a2 : Value) (w : World) => (show (Instr.field 72 (.agg #[a0, a1, a2]) 2).run Try.prog w = .ok a2 w from by kernel_rfl)
  have cn0_ : decide ((W.length : Int) < 2) = false := decide_eq_false (by omega)
  have cn1_ : decide (W.length < 2) = false := decide_eq_false (by omega)
  have cn2_ : (0 < W.length) = True := eq_true (by omega)
  have cn3_ : (1 < W.length) = True := eq_true (by omega)
  have cn4_ : ((0 : Int) < (W.length : Int)) = True := eq_true (by omega)
  have cn5_ : ((1 : Int) < (W.length : Int)) = True := eq_true (by omega)
  have cn6_ : ((2 : Int) ≤ (W.length : Int)) = True := eq_true (by omega)
  have cn7_ : (2 ≤ W.length) = True := eq_true (by omega)
  clear hr0 hc0 h_u h_n h_b
  go_enter Try.func28, Try.ntmps28
  go_wp2_with (first | ((with_reducible refine gate_dst (N := 2) rfl ?_); refine hold_here ?_))
  refine hold_go ?_
  refine box_event (N := 2) (cs := #[.int .i64 0, .int .i64 0, .int .i64 0, .slice none 0 0]) (t := 53) ?hgb rfl ?hrb ?_
  case hgb => rfl
  case hrb => first | (go_simp; done) | (go_simp; rfl)
  intro g2_ hg w1_ hbox hb
  replace HB := Aside0.mk (below_step HB.out hb)
  replace ZZ := Aside0.mk (And.intro ZZ.out (show w.heap.size ≤ w1_.heap.size from hb.size))
  have BK2 := Aside0.mk hbox
  replace ZZ := Aside0.mk (And.intro ZZ.out (And.intro (show g2_ = w.heap.size from hg) (show g2_ < w1_.heap.size from blk_lt hbox)))
  clear hb hbox hg
  go_wp2_with (first | (go_at_call 53; refine hold_here ?_))
  refine hold_go ?_
  refine (impl_UnpackWords.calls _ A0 c0 l0 q0 q1 W _ ?s1 ?s2 H_u.out).mono ?_
  case s1 => exact Kd.C_below HR0.out HB.out
  case s2 => exact HC0.out
  rintro e w2_ ⟨v, rfl, ho, hb⟩
  replace BK2 := Aside0.mk (blk_below BK2.out hb)
  replace HB := Aside0.mk (below_step HB.out hb)
  replace ZZ := Aside0.mk (And.intro ZZ.out (show w1_.heap.size ≤ w2_.heap.size from hb.size))
  have hfo_ := Kd.S_form ho (by have := H_n.out; omega)
  obtain ⟨A_WS, c_WS, ev_, hc_WS, hA_WS⟩ := AR_of_S (base := w.heap.size) ho (show w.heap.size ≤ w1_.heap.size from (by have h_ := ZZ.out; omega))
  subst ev_
  have HC_WS := Aside0.mk hc_WS
  have WS := Aside0.mk (show AR w.heap.size w2_ w1_.heap.size w2_.heap.size A_WS W from hA_WS)
  clear hc_WS hA_WS ho
  obtain ⟨gw_, cw_, evw_, _⟩ := hfo_
  injection evw_ with eA_ _ eC_
  subst eA_ eC_
  clear hb
  obtain ⟨ad_, B0_, d0_, eA_, hx0_, hl0_, hi0_⟩ := word_at (Kd.F_now (AR.foot WS.out)) 0 (by have := H_n.out; omega)
  obtain ⟨ad2_, B1_, d1_, eA2_, hx1_, hl1_, hi1_⟩ := word_at (Kd.F_now (AR.foot WS.out)) 1 (by have := H_n.out; omega)
  obtain rfl := Option.some.inj eA_
  obtain rfl := Option.some.inj eA2_
  rw [Addr.add_zero'] at hx0_
  replace hx1_ := (show w2_.cell? ⟨gw_, 1, none⟩ = _ from hx1_)
  obtain ⟨n0_, hn0_⟩ : ∃ n, W[0]!.length = n := ⟨_, rfl⟩
  rw [hn0_] at hx0_
  have cb_ : ((n0_ : Int) != 1) = true := bne_iff_ne.2 (by have := H_b.out; omega)
  clear hn0_ hl0_ hi0_ hl1_ hi1_ hx1_
  go_wp2_with (first | ((with_reducible refine gate_store (t := 53) (p := 2) (v := .tmp 25) rfl ?_); refine hold_here ?_))
  refine hold_go ?_
  refine row_store rfl 53 (.tmp 2) (.tmp 25) rfl g2_ #[.int .i64 5, .int .i64 0, .int .i64 0, .slice none 0 0] rfl ?hy 53 _ BK2.out ?hi ?ho ?h1 rfl HB.out (show w.heap.size ≤ g2_ from (by have h_ := ZZ.out; omega)) ?_
  case hy => rfl
  case hi => kernel_rfl
  case ho => rfl
  case h1 => first | rfl | (simp [Value.oneCell']; done) | (go_simp; done)
  intro w3_ bo hk hb2
  clear BK2
  replace WS := Aside0.mk (AR.kept WS.out hk (by have h_ := ZZ.out; omega))
  replace HB := Aside0.mk hb2
  replace ZZ := Aside0.mk (And.intro ZZ.out (show w2_.heap.size ≤ w3_.heap.size from hk.1))
  have BK2 := Aside0.mk bo
  clear bo hk hb2
  go_wp2
  refine bodyPost_ret (results_cell_row rfl _ _ g2_ 53 #[.int .i64 5, .int .i64 0, .int .i64 0, .slice none 0 0] (0, 0) _ rfl BK2.out Try.underlying53 rfl (by kernel_rfl)) rfl ?_
  exact ⟨none, 0, rfl, Nat.le_refl _, AR.nil _ _ _ _ _, HB.out⟩
set_option maxHeartbeats 80000000 in
set_option maxRecDepth 100000 in
theorem impl_UnpackProof_C (ku : Nat) (A0 : Option Addr) (c0 : Nat) (l0 : List Int) (q0 q1 : Int) (W : List (List Int)) (x : Int) (w : World) (hr0 : Kd.C (Kd.int .u8) w A0 l0.length l0) (hc0 : l0.length ≤ c0) (h_u : impl_UnpackWords.f ku l0 = some (q0, q1, W)) (h_n : 2 ≤ W.length) (h_x : W[0]! = [x]) (h_b : W[1]!.length ≠ 1) :
    Calls Try.prog 28 #[.slice A0 l0.length c0] w fun e w' => ∃ A c, e = .returned (.agg #[.int .i64 5, .int .i64 0, .int .i64 0, .slice A ([] : List (List Int)).length c]) ∧ ([] : List (List Int)).length ≤ c ∧ AR w.heap.size w' w.heap.size w'.heap.size A ([] : List (List Int)) ∧ Below w.heap.size w w' := by
  have hu1_ := Try.underlying53
  have hu2_ := Try.underlying25
  have hu3_ := Try.underlying72
  have HR0 := Aside0.mk hr0
  have HC0 := Aside0.mk hc0
  have H_u := Aside0.mk h_u
  have H_n := Aside0.mk h_n
  have H_x := Aside0.mk h_x
  have H_b := Aside0.mk h_b
  have HB := Aside0.mk (Below.refl w.heap.size w)
  have ZZ := Aside0.mk (Nat.le_refl w.heap.size)
  have hfd_2 := fun (a0 a1 a2 : Value) (w : World) => (show (Instr.field 72 (.agg #[a0, a1, a2]) 2).run Try.prog w = .ok a2 w from by kernel_rfl)
  have cn0_ : decide ((W.length : Int) < 2) = false := decide_eq_false (by omega)
  have cn1_ : decide (W.length < 2) = false := decide_eq_false (by omega)
  have cn2_ : (0 < W.length) = True := eq_true (by omega)
  have cn3_ : (1 < W.length) = True := eq_true (by omega)
  have cn4_ : ((0 : Int) < (W.length : Int)) = True := eq_true (by omega)
  have cn5_ : ((1 : Int) < (W.length : Int)) = True := eq_true (by omega)
  have cn6_ : ((2 : Int) ≤ (W.length : Int)) = True := eq_true (by omega)
  have cn7_ : (2 ≤ W.length) = True := eq_true (by omega)
  clear hr0 hc0 h_u h_n h_x h_b
  go_enter Try.func28, Try.ntmps28
  go_wp2_with (first | ((with_reducible refine gate_dst (N := 2) rfl ?_); refine hold_here ?_))
  refine hold_go ?_
  refine box_event (N := 2) (cs := #[.int .i64 0, .int .i64 0, .int .i64 0, .slice none 0 0]) (t := 53) ?hgb rfl ?hrb ?_
  case hgb => rfl
  case hrb => first | (go_simp; done) | (go_simp; rfl)
  intro g2_ hg w1_ hbox hb
  replace HB := Aside0.mk (below_step HB.out hb)
  replace ZZ := Aside0.mk (And.intro ZZ.out (show w.heap.size ≤ w1_.heap.size from hb.size))
  have BK2 := Aside0.mk hbox
  replace ZZ := Aside0.mk (And.intro ZZ.out (And.intro (show g2_ = w.heap.size from hg) (show g2_ < w1_.heap.size from blk_lt hbox)))
  clear hb hbox hg
  go_wp2_with (first | (go_at_call 53; refine hold_here ?_))
  refine hold_go ?_
  refine (impl_UnpackWords.calls _ A0 c0 l0 q0 q1 W _ ?s1 ?s2 H_u.out).mono ?_
  case s1 => exact Kd.C_below HR0.out HB.out
  case s2 => exact HC0.out
  rintro e w2_ ⟨v, rfl, ho, hb⟩
  replace BK2 := Aside0.mk (blk_below BK2.out hb)
  replace HB := Aside0.mk (below_step HB.out hb)
  replace ZZ := Aside0.mk (And.intro ZZ.out (show w1_.heap.size ≤ w2_.heap.size from hb.size))
  have hfo_ := Kd.S_form ho (by have := H_n.out; omega)
  obtain ⟨A_WS, c_WS, ev_, hc_WS, hA_WS⟩ := AR_of_S (base := w.heap.size) ho (show w.heap.size ≤ w1_.heap.size from (by have h_ := ZZ.out; omega))
  subst ev_
  have HC_WS := Aside0.mk hc_WS
  have WS := Aside0.mk (show AR w.heap.size w2_ w1_.heap.size w2_.heap.size A_WS W from hA_WS)
  clear hc_WS hA_WS ho
  obtain ⟨gw_, cw_, evw_, _⟩ := hfo_
  injection evw_ with eA_ _ eC_
  subst eA_ eC_
  clear hb
  obtain ⟨ad_, B0_, d0_, eA_, hx0_, hl0_, hi0_⟩ := word_at (Kd.F_now (AR.foot WS.out)) 0 (by have := H_n.out; omega)
  obtain ⟨ad2_, B1_, d1_, eA2_, hx1_, hl1_, hi1_⟩ := word_at (Kd.F_now (AR.foot WS.out)) 1 (by have := H_n.out; omega)
  obtain rfl := Option.some.inj eA_
  obtain rfl := Option.some.inj eA2_
  rw [Addr.add_zero'] at hx0_
  replace hx1_ := (show w2_.cell? ⟨gw_, 1, none⟩ = _ from hx1_)
  rw [H_x.out] at hx0_
  obtain ⟨n1_, hn1_⟩ : ∃ n, W[1]!.length = n := ⟨_, rfl⟩
  rw [hn1_] at hx1_
  have cb_ : ((n1_ : Int) != 1) = true := bne_iff_ne.2 (by have := H_b.out; omega)
  simp only [List.length_cons, List.length_nil, Nat.zero_add] at hx0_
  clear hn1_ hl0_ hi0_ hl1_ hi1_
  go_wp2_with (first | ((with_reducible refine gate_store (t := 53) (p := 2) (v := .tmp 25) rfl ?_); refine hold_here ?_))
  refine hold_go ?_
  refine row_store rfl 53 (.tmp 2) (.tmp 25) rfl g2_ #[.int .i64 5, .int .i64 0, .int .i64 0, .slice none 0 0] rfl ?hy 53 _ BK2.out ?hi ?ho ?h1 rfl HB.out (show w.heap.size ≤ g2_ from (by have h_ := ZZ.out; omega)) ?_
  case hy => rfl
  case hi => kernel_rfl
  case ho => rfl
  case h1 => first | rfl | (simp [Value.oneCell']; done) | (go_simp; done)
  intro w3_ bo hk hb2
  clear BK2
  replace WS := Aside0.mk (AR.kept WS.out hk (by have h_ := ZZ.out; omega))
  replace HB := Aside0.mk hb2
  replace ZZ := Aside0.mk (And.intro ZZ.out (show w2_.heap.size ≤ w3_.heap.size from hk.1))
  have BK2 := Aside0.mk bo
  clear bo hk hb2
  go_wp2
  refine bodyPost_ret (results_cell_row rfl _ _ g2_ 53 #[.int .i64 5, .int .i64 0, .int .i64 0, .slice none 0 0] (0, 0) _ rfl BK2.out Try.underlying53 rfl (by kernel_rfl)) rfl ?_
  exact ⟨none, 0, rfl, Nat.le_refl _, AR.nil _ _ _ _ _, HB.out⟩
set_option maxHeartbeats 80000000 in
set_option maxRecDepth 100000 in
theorem impl_UnpackProof_D (ku : Nat) (A0 : Option Addr) (c0 : Nat) (l0 : List Int) (q0 q1 : Int) (W : List (List Int)) (x : Int) (y : Int) (ps : List (List Int)) (b : Bool) (kp : Nat) (w : World) (hr0 : Kd.C (Kd.int .u8) w A0 l0.length l0) (hc0 : l0.length ≤ c0) (h_u : impl_UnpackWords.f ku l0 = some (q0, q1, W)) (h_n : 2 ≤ W.length) (h_x : W[0]! = [x]) (h_y : W[1]! = [y]) (h_bx : 0 ≤ x ∧ x ≤ 255) (h_by : 0 ≤ y ∧ y ≤ 255) (h_d : W.drop 2 = ps) (h_p : impl_isProof.f kp x y ps = some b) :
    Calls Try.prog 28 #[.slice A0 l0.length c0] w fun e w' => ∃ A c, e = .returned (.agg #[.int .i64 (cond b 0 5), .int .i64 (cond b x 0), .int .i64 (cond b y 0), .slice A (cond b ps []).length c]) ∧ (cond b ps []).length ≤ c ∧ AR w.heap.size w' w.heap.size w'.heap.size A (cond b ps []) ∧ Below w.heap.size w w' := by
  have hu1_ := Try.underlying53
  have hu2_ := Try.underlying25
  have hu3_ := Try.underlying72
  have HR0 := Aside0.mk hr0
  have HC0 := Aside0.mk hc0
  have H_u := Aside0.mk h_u
  have H_n := Aside0.mk h_n
  have H_x := Aside0.mk h_x
  have H_y := Aside0.mk h_y
  have H_bx := Aside0.mk h_bx
  have H_by := Aside0.mk h_by
  have H_d := Aside0.mk h_d
  have H_p := Aside0.mk h_p
  have HB := Aside0.mk (Below.refl w.heap.size w)
  have ZZ := Aside0.mk (Nat.le_refl w.heap.size)
  have hfd_2 := fun (a0 a1 a2 : Value) (w : World) => (show (Instr.field 72 (.agg #[a0, a1, a2]) 2).run Try.prog w = .ok a2 w from by kernel_rfl)
  have cn0_ : decide ((W.length : Int) < 2) = false := decide_eq_false (by omega)
  have cn1_ : decide (W.length < 2) = false := decide_eq_false (by omega)
  have cn2_ : (0 < W.length) = True := eq_true (by omega)
  have cn3_ : (1 < W.length) = True := eq_true (by omega)
  have cn4_ : ((0 : Int) < (W.length : Int)) = True := eq_true (by omega)
  have cn5_ : ((1 : Int) < (W.length : Int)) = True := eq_true (by omega)
  have cn6_ : ((2 : Int) ≤ (W.length : Int)) = True := eq_true (by omega)
  have cn7_ : (2 ≤ W.length) = True := eq_true (by omega)
  clear hr0 hc0 h_u h_n h_x h_y h_bx h_by h_d h_p
  go_enter Try.func28, Try.ntmps28
  go_wp2_with (first | ((with_reducible refine gate_dst (N := 2) rfl ?_); refine hold_here ?_))
  refine hold_go ?_
  refine box_event (N := 2) (cs := #[.int .i64 0, .int .i64 0, .int .i64 0, .slice none 0 0]) (t := 53) ?hgb rfl ?hrb ?_
  case hgb => rfl
  case hrb => first | (go_simp; done) | (go_simp; rfl)
  intro g2_ hg w1_ hbox hb
  replace HB := Aside0.mk (below_step HB.out hb)
  replace ZZ := Aside0.mk (And.intro ZZ.out (show w.heap.size ≤ w1_.heap.size from hb.size))
  have BK2 := Aside0.mk hbox
  replace ZZ := Aside0.mk (And.intro ZZ.out (And.intro (show g2_ = w.heap.size from hg) (show g2_ < w1_.heap.size from blk_lt hbox)))
  clear hb hbox hg
  go_wp2_with (first | (go_at_call 53; refine hold_here ?_))
  refine hold_go ?_
  refine (impl_UnpackWords.calls _ A0 c0 l0 q0 q1 W _ ?s1 ?s2 H_u.out).mono ?_
  case s1 => exact Kd.C_below HR0.out HB.out
  case s2 => exact HC0.out
  rintro e w2_ ⟨v, rfl, ho, hb⟩
  replace BK2 := Aside0.mk (blk_below BK2.out hb)
  replace HB := Aside0.mk (below_step HB.out hb)
  replace ZZ := Aside0.mk (And.intro ZZ.out (show w1_.heap.size ≤ w2_.heap.size from hb.size))
  have hfo_ := Kd.S_form ho (by have := H_n.out; omega)
  obtain ⟨A_WS, c_WS, ev_, hc_WS, hA_WS⟩ := AR_of_S (base := w.heap.size) ho (show w.heap.size ≤ w1_.heap.size from (by have h_ := ZZ.out; omega))
  subst ev_
  have HC_WS := Aside0.mk hc_WS
  have WS := Aside0.mk (show AR w.heap.size w2_ w1_.heap.size w2_.heap.size A_WS W from hA_WS)
  clear hc_WS hA_WS ho
  obtain ⟨gw_, cw_, evw_, _⟩ := hfo_
  injection evw_ with eA_ _ eC_
  subst eA_ eC_
  clear hb
  obtain ⟨ad_, B0_, d0_, eA_, hx0_, hl0_, hi0_⟩ := word_at (Kd.F_now (AR.foot WS.out)) 0 (by have := H_n.out; omega)
  obtain ⟨ad2_, B1_, d1_, eA2_, hx1_, hl1_, hi1_⟩ := word_at (Kd.F_now (AR.foot WS.out)) 1 (by have := H_n.out; omega)
  obtain rfl := Option.some.inj eA_
  obtain rfl := Option.some.inj eA2_
  rw [Addr.add_zero'] at hx0_
  replace hx1_ := (show w2_.cell? ⟨gw_, 1, none⟩ = _ from hx1_)
  rw [H_x.out] at hx0_ hi0_
  rw [H_y.out] at hx1_ hi1_
  simp only [List.length_cons, List.length_nil, Nat.zero_add] at hx0_ hx1_ hi0_ hi1_
  obtain ⟨b0_, e0_, hv0_⟩ := byte_at hi0_
  obtain ⟨b1_, e1_, hv1_⟩ := byte_at hi1_
  subst e0_ e1_
  clear hi0_ hi1_ hl0_ hl1_
  try go_wp2_with fail
  replace BK2 := Aside0.mk (blk_drew BK2.out)
  replace WS := Aside0.mk (AR.drew WS.out)
  replace HB := Aside0.mk (below_drew1 HB.out)
  replace ZZ := Aside0.mk (And.intro ZZ.out (show w2_.heap.size ≤ w2_.drew.heap.size from Nat.le_refl _))
  refine start_ (n := 17) (S := fun w' => w'.cell? (⟨gw_, 0, none⟩) = some (.slice (some b0_) 1 d0_) ∧ w'.cell? (⟨gw_, 1, none⟩) = some (.slice (some b1_) 1 d1_) ∧ w'.cell? (b0_) = some (.int .u8 x) ∧ w'.cell? (b1_) = some (.int .u8 y)) (ds := [16]) #[false, false, false, false, false, false, false, false, false, false, false, false, false, false, false, false, false] (by kernel_rfl) rfl rfl ⟨hx0_, hx1_, hv0_, hv1_⟩ (fun hHeld => ?_)
  generalize w2_.drew = w3_ at BK2 WS HB ZZ hHeld ⊢
  clear hx0_ hx1_ hv0_ hv1_
  have HWX := Aside0.mk (w64 (n := x) (by have := H_bx.out; omega) (by have := H_bx.out; omega))
  have HWY := Aside0.mk (w64 (n := y) (by have := H_by.out; omega) (by have := H_by.out; omega))
  have hPS_ := AR.drop WS.out 2 c_WS H_n.out HC_WS.out
  rw [H_d.out] at hPS_
  obtain ⟨A_PS, eAP_⟩ : ∃ A : Option Addr, (if c_WS = 2 then some ⟨gw_, 0, none⟩ else some ⟨gw_, 2, none⟩) = A := ⟨_, rfl⟩
  rw [show (if c_WS = 2 then some (⟨gw_, 0, none⟩ : Addr) else (some (⟨gw_, 0, none⟩ : Addr)).map (·.add 2)) = A_PS from eAP_] at hPS_
  obtain ⟨c_PS, eCP_⟩ : ∃ c, c_WS - 2 = c := ⟨_, rfl⟩
  have hdl_ := congrArg List.length H_d.out
  rw [List.length_drop] at hdl_
  have HC_PS := Aside0.mk (show ps.length ≤ c_PS by have := HC_WS.out; omega)
  have PS := Aside0.mk hPS_
  have EAP := Aside0.mk eAP_
  have ECP := Aside0.mk eCP_
  have EDL := Aside0.mk hdl_
  clear hPS_ eAP_ eCP_ hdl_ WS
  refine pure_ (i := 0) (N := some 26) (v := ?_) (a' := ?_) #[true, false, false, false, false, false, false, false, false, false, false, false, false, false, false, false, false] rfl rfl (by kernel_rfl) (fun _ _ _ h => h) (Or.inl ⟨by rfl, ?_⟩) ?_ ?_
  rotate_left
  · intro w'
    go_simp
    with_reducible rfl
  rotate_left
  · simp only [Act.put, List.setIfInBounds_toArray, List.set_cons_zero, List.set_cons_succ, i64_w, i32_w]
    rfl
  refine pure_ (i := 1) (N := some 27) (v := ?_) (a' := ?_) #[true, true, false, false, false, false, false, false, false, false, false, false, false, false, false, false, false] rfl rfl (by kernel_rfl) (fun _ _ _ h => h) (Or.inl ⟨by rfl, ?_⟩) ?_ ?_
  rotate_left
  · intro w'
    go_simp
    with_reducible rfl
  rotate_left
  · simp only [Act.put, List.setIfInBounds_toArray, List.set_cons_zero, List.set_cons_succ, i64_w, i32_w]
    rfl
  refine take_ (i := 2) (N := some 28) (v := ?_) (a' := ?_) #[true, true, true, false, false, false, false, false, false, false, false, false, false, false, false, false, false] rfl rfl (by kernel_rfl) (fun _ _ _ h => h) (Or.inl ⟨by rfl, ?_⟩) hHeld ?_ ?_
  rotate_left
  · rintro w' ⟨s0, s1, s2, s3⟩
    go_simp
    with_reducible rfl
  rotate_left
  · simp only [Act.put, List.setIfInBounds_toArray, List.set_cons_zero, List.set_cons_succ, i64_w, i32_w]
    rfl
  refine pure_ (i := 3) (N := some 29) (v := ?_) (a' := ?_) #[true, true, true, true, false, false, false, false, false, false, false, false, false, false, false, false, false] rfl rfl (by kernel_rfl) (fun _ _ _ h => h) (Or.inl ⟨by rfl, ?_⟩) ?_ ?_
  rotate_left
  · intro w'
    go_simp
    with_reducible rfl
  rotate_left
  · simp only [Act.put, List.setIfInBounds_toArray, List.set_cons_zero, List.set_cons_succ, i64_w, i32_w]
    rfl
  refine take_ (i := 4) (N := some 30) (v := ?_) (a' := ?_) #[true, true, true, true, true, false, false, false, false, false, false, false, false, false, false, false, false] rfl rfl (by kernel_rfl) (fun _ _ _ h => h) (Or.inl ⟨by rfl, ?_⟩) hHeld ?_ ?_
  rotate_left
  · rintro w' ⟨s0, s1, s2, s3⟩
    go_simp
    with_reducible rfl
  rotate_left
  · simp only [Act.put, List.setIfInBounds_toArray, List.set_cons_zero, List.set_cons_succ, i64_w, i32_w]
    rfl
  refine pure_ (i := 5) (N := some 31) (v := .int .i64 x) (a' := ?_) #[true, true, true, true, true, true, false, false, false, false, false, false, false, false, false, false, false] rfl rfl (by kernel_rfl) (fun _ _ _ h => h) (Or.inl ⟨by rfl, ?_⟩) ?_ ?_
  · intro w'
    go_simp
    first | done | (simp only [i64_w, HWX.out]; done) | rw [i64_w, HWX.out]
  rotate_left
  · simp only [Act.put, List.setIfInBounds_toArray, List.set_cons_zero, List.set_cons_succ, i64_w, i32_w]
    rfl
  refine pure_ (i := 6) (N := some 32) (v := ?_) (a' := ?_) #[true, true, true, true, true, true, true, false, false, false, false, false, false, false, false, false, false] rfl rfl (by kernel_rfl) (fun _ _ _ h => h) (Or.inl ⟨by rfl, ?_⟩) ?_ ?_
  rotate_left
  · intro w'
    go_simp
    with_reducible rfl
  rotate_left
  · simp only [Act.put, List.setIfInBounds_toArray, List.set_cons_zero, List.set_cons_succ, i64_w, i32_w]
    rfl
  refine pure_ (i := 7) (N := some 33) (v := ?_) (a' := ?_) #[true, true, true, true, true, true, true, true, false, false, false, false, false, false, false, false, false] rfl rfl (by kernel_rfl) (fun _ _ _ h => h) (Or.inl ⟨by rfl, ?_⟩) ?_ ?_
  rotate_left
  · intro w'
    go_simp
    with_reducible rfl
  rotate_left
  · simp only [Act.put, List.setIfInBounds_toArray, List.set_cons_zero, List.set_cons_succ, i64_w, i32_w]
    rfl
  refine take_ (i := 8) (N := some 34) (v := ?_) (a' := ?_) #[true, true, true, true, true, true, true, true, true, false, false, false, false, false, false, false, false] rfl rfl (by kernel_rfl) (fun _ _ _ h => h) (Or.inl ⟨by rfl, ?_⟩) hHeld ?_ ?_
  rotate_left
  · rintro w' ⟨s0, s1, s2, s3⟩
    go_simp
    with_reducible rfl
  rotate_left
  · simp only [Act.put, List.setIfInBounds_toArray, List.set_cons_zero, List.set_cons_succ, i64_w, i32_w]
    rfl
  refine pure_ (i := 9) (N := some 35) (v := ?_) (a' := ?_) #[true, true, true, true, true, true, true, true, true, true, false, false, false, false, false, false, false] rfl rfl (by kernel_rfl) (fun _ _ _ h => h) (Or.inl ⟨by rfl, ?_⟩) ?_ ?_
  rotate_left
  · intro w'
    go_simp
    with_reducible rfl
  rotate_left
  · simp only [Act.put, List.setIfInBounds_toArray, List.set_cons_zero, List.set_cons_succ, i64_w, i32_w]
    rfl
  refine take_ (i := 10) (N := some 36) (v := ?_) (a' := ?_) #[true, true, true, true, true, true, true, true, true, true, true, false, false, false, false, false, false] rfl rfl (by kernel_rfl) (fun _ _ _ h => h) (Or.inl ⟨by rfl, ?_⟩) hHeld ?_ ?_
  rotate_left
  · rintro w' ⟨s0, s1, s2, s3⟩
    go_simp
    with_reducible rfl
  rotate_left
  · simp only [Act.put, List.setIfInBounds_toArray, List.set_cons_zero, List.set_cons_succ, i64_w, i32_w]
    rfl
  refine pure_ (i := 11) (N := some 37) (v := .int .i64 y) (a' := ?_) #[true, true, true, true, true, true, true, true, true, true, true, true, false, false, false, false, false] rfl rfl (by kernel_rfl) (fun _ _ _ h => h) (Or.inl ⟨by rfl, ?_⟩) ?_ ?_
  · intro w'
    go_simp
    first | done | (simp only [i64_w, HWY.out]; done) | rw [i64_w, HWY.out]
  rotate_left
  · simp only [Act.put, List.setIfInBounds_toArray, List.set_cons_zero, List.set_cons_succ, i64_w, i32_w]
    rfl
  refine pure_ (i := 12) (N := some 38) (v := ?_) (a' := ?_) #[true, true, true, true, true, true, true, true, true, true, true, true, true, false, false, false, false] rfl rfl (by kernel_rfl) (fun _ _ _ h => h) (Or.inl ⟨by rfl, ?_⟩) ?_ ?_
  rotate_left
  · intro w'
    go_simp
    with_reducible rfl
  rotate_left
  · simp only [Act.put, List.setIfInBounds_toArray, List.set_cons_zero, List.set_cons_succ, i64_w, i32_w]
    rfl
  refine pure_ (i := 13) (N := some 39) (v := .slice A_PS ps.length c_PS) (a' := ?_) #[true, true, true, true, true, true, true, true, true, true, true, true, true, true, false, false, false] rfl rfl (by kernel_rfl) (fun _ _ _ h => h) (Or.inl ⟨by rfl, ?_⟩) ?_ ?_
  · intro w'
    go_simp
    exact ⟨EAP.out, EDL.out, ECP.out⟩
  rotate_left
  · simp only [Act.put, List.setIfInBounds_toArray, List.set_cons_zero, List.set_cons_succ, i64_w, i32_w]
    rfl
  refine pure_ (i := 14) (N := some 40) (v := ?_) (a' := ?_) #[true, true, true, true, true, true, true, true, true, true, true, true, true, true, true, false, false] rfl rfl (by kernel_rfl) (fun _ _ _ h => h) (Or.inl ⟨by rfl, ?_⟩) ?_ ?_
  rotate_left
  · intro w'
    go_simp
    with_reducible rfl
  rotate_left
  · simp only [Act.put, List.setIfInBounds_toArray, List.set_cons_zero, List.set_cons_succ, i64_w, i32_w]
    rfl
  refine one_ (i := 15) (N := some 4) #[true, true, true, true, true, true, true, true, true, true, true, true, true, true, true, true, false] rfl rfl (by kernel_rfl) (by decide) (fun K hK => ?_)
  refine box_stepK (cs := #[.int .i64 0, .int .i64 0, .slice none 0 0]) (t := 25) (by rfl) rfl ?hr ?_
  case hr => first | (go_simp; done) | (go_simp; rfl)
  intro g4_ hg w4_ hbox hb
  have hS_ : (fun w' : World => w'.cell? (⟨gw_, 0, none⟩) = some (.slice (some b0_) 1 d0_) ∧ w'.cell? (⟨gw_, 1, none⟩) = some (.slice (some b1_) 1 d1_) ∧ w'.cell? (b0_) = some (.int .u8 x) ∧ w'.cell? (b1_) = some (.int .u8 y)) w4_ := by
    obtain ⟨s0, s1, s2, s3⟩ := hHeld
    exact ⟨(hb.cell (World.block_lt_of_cell? _ _ s0)).trans s0, (hb.cell (World.block_lt_of_cell? _ _ s1)).trans s1, (hb.cell (World.block_lt_of_cell? _ _ s2)).trans s2, (hb.cell (World.block_lt_of_cell? _ _ s3)).trans s3⟩
  replace BK2 := Aside0.mk (blk_below BK2.out hb)
  replace PS := Aside0.mk (AR.below PS.out hb)
  replace HB := Aside0.mk (below_step HB.out hb)
  replace ZZ := Aside0.mk (And.intro ZZ.out (show w3_.heap.size ≤ w4_.heap.size from hb.size))
  have BK4 := Aside0.mk hbox
  replace ZZ := Aside0.mk (And.intro ZZ.out (And.intro (show g4_ = w3_.heap.size from hg) (show g4_ < w4_.heap.size from blk_lt hbox)))
  clear hb hbox hg
  refine hK.out _ _ hS_ (fun hHeld2 => ?_)
  clear hK K hHeld hS_
  have hHeld := hHeld2
  clear hHeld2
  refine norm_ (a' := ?_) ?_ ?_
  rotate_left
  · show Act.put _ (some 4) _ = _
    simp only [Act.put, List.setIfInBounds_toArray, List.set_cons_zero, List.set_cons_succ, i64_w, i32_w]
    rfl
  refine last_ (i := 16) (N := none) #[true, true, true, true, true, true, true, true, true, true, true, true, true, true, true, true, true] rfl rfl (by kernel_rfl) (by decide) (fun K hK => ?_)
  refine row_stepK (by rfl) 25 (.tmp 4) (.tmp 40) rfl g4_ #[.int .i64 x, .int .i64 y, .slice A_PS ps.length c_PS] rfl ?hy 25 _ BK4.out ?hi ?ho ?h1 rfl HB.out (show w.heap.size ≤ g4_ from (by have h_ := ZZ.out; omega)) ?_
  case hy => rfl
  case hi => kernel_rfl
  case ho => rfl
  case h1 => first | rfl | (simp [Value.oneCell']; done) | (go_simp; done)
  clear hHeld
  intro w5_ bo hk hb2
  clear BK4
  replace BK2 := Aside0.mk (blk_keptIn BK2.out hk (by have h_ := ZZ.out; omega))
  replace PS := Aside0.mk (AR.kept PS.out hk (by have h_ := ZZ.out; omega))
  replace HB := Aside0.mk hb2
  replace ZZ := Aside0.mk (And.intro ZZ.out (show w4_.heap.size ≤ w5_.heap.size from hk.1))
  have BK4 := Aside0.mk bo
  clear bo hk hb2
  refine hK.out _ _ ?_
  clear hK K
  refine done_ (by kernel_rfl) ?_
  have hz_BK4_0 : w5_.cell? ⟨g4_, 0, none⟩ = some (.int .i64 x) := (blk_cell BK4.out 0).trans rfl
  have hz_BK4_1 : w5_.cell? ⟨g4_, 1, none⟩ = some (.int .i64 y) := (blk_cell BK4.out 1).trans rfl
  have hz_BK4_2 : w5_.cell? ⟨g4_, 2, none⟩ = some (.slice A_PS ps.length c_PS) := (blk_cell BK4.out 2).trans rfl
  go_wp2_with (first | (go_at_call 44; refine hold_here ?_))
  refine hold_go ?_
  refine (impl_isProof.calls _ x y A_PS c_PS ps b _ ?s1 ?s2 H_p.out).mono ?_
  case s1 => exact Kd.F_now (AR.foot PS.out)
  case s2 => exact HC_PS.out
  rintro e w6_ ⟨rfl, hb⟩
  replace BK2 := Aside0.mk (blk_below BK2.out hb)
  replace PS := Aside0.mk (AR.below PS.out hb)
  replace BK4 := Aside0.mk (blk_below BK4.out hb)
  replace HB := Aside0.mk (below_step HB.out hb)
  clear hz_BK4_0 hz_BK4_1 hz_BK4_2
  replace ZZ := Aside0.mk (And.intro ZZ.out (show w5_.heap.size ≤ w6_.heap.size from hb.size))
  clear hb
  have hz_BK4_0 : w6_.cell? ⟨g4_, 0, none⟩ = some (.int .i64 x) := (blk_cell BK4.out 0).trans rfl
  have hz_BK4_1 : w6_.cell? ⟨g4_, 1, none⟩ = some (.int .i64 y) := (blk_cell BK4.out 1).trans rfl
  have hz_BK4_2 : w6_.cell? ⟨g4_, 2, none⟩ = some (.slice A_PS ps.length c_PS) := (blk_cell BK4.out 2).trans rfl
  cases b
  · skip
    go_wp2_with (first | ((with_reducible refine gate_store (t := 53) (p := 2) (v := .tmp 44) rfl ?_); refine hold_here ?_))
    refine hold_go ?_
    refine row_store rfl 53 (.tmp 2) (.tmp 44) rfl g2_ #[.int .i64 5, .int .i64 0, .int .i64 0, .slice none 0 0] rfl ?hy 53 _ BK2.out ?hi ?ho ?h1 rfl HB.out (show w.heap.size ≤ g2_ from (by have h_ := ZZ.out; omega)) ?_
    case hy => rfl
    case hi => kernel_rfl
    case ho => rfl
    case h1 => first | rfl | (simp [Value.oneCell']; done) | (go_simp; done)
    intro w7_ bo hk hb2
    clear BK2
    replace PS := Aside0.mk (AR.kept PS.out hk (by have h_ := ZZ.out; omega))
    replace BK4 := Aside0.mk (blk_keptIn BK4.out hk (by have h_ := ZZ.out; omega))
    replace HB := Aside0.mk hb2
    clear hz_BK4_0 hz_BK4_1 hz_BK4_2
    replace ZZ := Aside0.mk (And.intro ZZ.out (show w6_.heap.size ≤ w7_.heap.size from hk.1))
    have BK2 := Aside0.mk bo
    clear bo hk hb2
    have hz_BK4_0 : w7_.cell? ⟨g4_, 0, none⟩ = some (.int .i64 x) := (blk_cell BK4.out 0).trans rfl
    have hz_BK4_1 : w7_.cell? ⟨g4_, 1, none⟩ = some (.int .i64 y) := (blk_cell BK4.out 1).trans rfl
    have hz_BK4_2 : w7_.cell? ⟨g4_, 2, none⟩ = some (.slice A_PS ps.length c_PS) := (blk_cell BK4.out 2).trans rfl
    go_wp2
    refine bodyPost_ret (results_cell_row rfl _ _ g2_ 53 #[.int .i64 5, .int .i64 0, .int .i64 0, .slice none 0 0] (0, 0) _ rfl BK2.out Try.underlying53 rfl (by kernel_rfl)) rfl ?_
    exact ⟨none, 0, rfl, Nat.le_refl _, AR.nil _ _ _ _ _, HB.out⟩
  · skip
    go_wp2_with (first | ((with_reducible refine gate_store (t := 53) (p := 2) (v := .tmp 46) rfl ?_); refine hold_here ?_))
    refine hold_go ?_
    refine row_store rfl 53 (.tmp 2) (.tmp 46) rfl g2_ #[.int .i64 0, .int .i64 x, .int .i64 y, .slice A_PS ps.length c_PS] rfl ?hy 53 _ BK2.out ?hi ?ho ?h1 rfl HB.out (show w.heap.size ≤ g2_ from (by have h_ := ZZ.out; omega)) ?_
    case hy => rfl
    case hi => kernel_rfl
    case ho => rfl
    case h1 => first | rfl | (simp [Value.oneCell']; done) | (go_simp; done)
    intro w7_ bo hk hb2
    clear BK2
    replace PS := Aside0.mk (AR.kept PS.out hk (by have h_ := ZZ.out; omega))
    replace BK4 := Aside0.mk (blk_keptIn BK4.out hk (by have h_ := ZZ.out; omega))
    replace HB := Aside0.mk hb2
    clear hz_BK4_0 hz_BK4_1 hz_BK4_2
    replace ZZ := Aside0.mk (And.intro ZZ.out (show w6_.heap.size ≤ w7_.heap.size from hk.1))
    have BK2 := Aside0.mk bo
    clear bo hk hb2
    have hz_BK4_0 : w7_.cell? ⟨g4_, 0, none⟩ = some (.int .i64 x) := (blk_cell BK4.out 0).trans rfl
    have hz_BK4_1 : w7_.cell? ⟨g4_, 1, none⟩ = some (.int .i64 y) := (blk_cell BK4.out 1).trans rfl
    have hz_BK4_2 : w7_.cell? ⟨g4_, 2, none⟩ = some (.slice A_PS ps.length c_PS) := (blk_cell BK4.out 2).trans rfl
    go_wp2
    refine bodyPost_ret (results_cell_row rfl _ _ g2_ 53 #[.int .i64 0, .int .i64 x, .int .i64 y, .slice A_PS ps.length c_PS] (0, 0) _ rfl BK2.out Try.underlying53 rfl (by kernel_rfl)) rfl ?_
    exact ⟨A_PS, c_PS, rfl, HC_PS.out, AR.grow PS.out (by have h_ := ZZ.out; omega) (by have h_ := ZZ.out; omega), HB.out⟩

end Go.Proofs.Ytchmaojmknfbpaa.S

/- The walk over spec.UnpackProof: what it answers, way by way. No condition beyond those in the statements. -/
set_option linter.unusedVariables false
set_option linter.unusedSimpArgs false
namespace Go.Proofs.Ytchmaojmknfbpaa.S
open Go Go.RowKit Go.Proofs.YtchmaojmknfbpaaW.PrintWords Go.Proofs.YtchmaojmknfbpaaW.PrintLast Go.Proofs.YtchmaojmknfbpaaW.PrintMore Go.Proofs.Ytchmaojmknfbpaa.Base
attribute [local go_sem] max2_int min2_int max_two min_two max_three min_three max_four min_four

set_option maxHeartbeats 80000000 in
set_option maxRecDepth 100000 in
theorem spec_UnpackProof_N (ku : Nat) (A0 : Option Addr) (c0 : Nat) (l0 : List Int) (q0 q1 : Int) (W : List (List Int)) (w : World) (hr0 : Kd.C (Kd.int .u8) w A0 l0.length l0) (hc0 : l0.length ≤ c0) (h_u : spec_UnpackWords.f ku l0 = some (q0, q1, W)) (h_q : q0 ≠ 0) :
    Calls Try.prog 29 #[.slice A0 l0.length c0] w fun e w' => ∃ A c, e = .returned (.agg #[.int .i64 5, .int .i64 0, .int .i64 0, .slice A ([] : List (List Int)).length c]) ∧ ([] : List (List Int)).length ≤ c ∧ AR w.heap.size w' w.heap.size w'.heap.size A ([] : List (List Int)) ∧ Below w.heap.size w w' := by
  have hu1_ := Try.underlying53
  have hu2_ := Try.underlying25
  have hu3_ := Try.underlying72
  have HR0 := Aside0.mk hr0
  have HC0 := Aside0.mk hc0
  have H_u := Aside0.mk h_u
  have H_q := Aside0.mk h_q
  have HB := Aside0.mk (Below.refl w.heap.size w)
  have ZZ := Aside0.mk (Nat.le_refl w.heap.size)
  have cq0_ : (q0 == 0) = false := beq_eq_false_iff_ne.2 h_q
  have cq1_ : (q0 != 0) = true := bne_iff_ne.2 h_q
  clear hr0 hc0 h_u h_q
  go_enter Try.func29, Try.ntmps29
  go_wp2_with (first | ((with_reducible refine gate_dst (N := 2) rfl ?_); refine hold_here ?_))
  refine hold_go ?_
  refine box_event (N := 2) (cs := #[.int .i64 0, .int .i64 0, .int .i64 0, .slice none 0 0]) (t := 53) ?hgb rfl ?hrb ?_
  case hgb => rfl
  case hrb => first | (go_simp; done) | (go_simp; rfl)
  intro g2_ hg w1_ hbox hb
  replace HB := Aside0.mk (below_step HB.out hb)
  replace ZZ := Aside0.mk (And.intro ZZ.out (show w.heap.size ≤ w1_.heap.size from hb.size))
  have BK2 := Aside0.mk hbox
  replace ZZ := Aside0.mk (And.intro ZZ.out (And.intro (show g2_ = w.heap.size from hg) (show g2_ < w1_.heap.size from blk_lt hbox)))
  clear hb hbox hg
  go_wp2_with (first | (go_at_call 52; refine hold_here ?_))
  refine hold_go ?_
  refine (spec_UnpackWords.calls _ A0 c0 l0 q0 q1 W _ ?s1 ?s2 H_u.out).mono ?_
  case s1 => exact Kd.C_below HR0.out HB.out
  case s2 => exact HC0.out
  rintro e w2_ ⟨v, rfl, ho, hb⟩
  replace BK2 := Aside0.mk (blk_below BK2.out hb)
  replace HB := Aside0.mk (below_step HB.out hb)
  replace ZZ := Aside0.mk (And.intro ZZ.out (show w1_.heap.size ≤ w2_.heap.size from hb.size))
  obtain ⟨A_WS, c_WS, ev_, hc_WS, hA_WS⟩ := AR_of_S (base := w.heap.size) ho (show w.heap.size ≤ w1_.heap.size from (by have h_ := ZZ.out; omega))
  subst ev_
  have HC_WS := Aside0.mk hc_WS
  have WS := Aside0.mk (show AR w.heap.size w2_ w1_.heap.size w2_.heap.size A_WS W from hA_WS)
  clear hc_WS hA_WS ho
  clear hb
  go_wp2_with (first | ((with_reducible refine gate_dst (N := 3) rfl ?_); refine hold_here ?_))
  refine hold_go ?_
  refine box_event (N := 3) (cs := #[.int .i64 0, .int .i64 0, .slice none 0 0]) (t := 72) ?hgb rfl ?hrb ?_
  case hgb => rfl
  case hrb => first | (go_simp; done) | (go_simp; rfl)
  intro g3_ hg w3_ hbox hb
  replace BK2 := Aside0.mk (blk_below BK2.out hb)
  replace WS := Aside0.mk (AR.below WS.out hb)
  replace HB := Aside0.mk (below_step HB.out hb)
  replace ZZ := Aside0.mk (And.intro ZZ.out (show w2_.heap.size ≤ w3_.heap.size from hb.size))
  have BK3 := Aside0.mk hbox
  replace ZZ := Aside0.mk (And.intro ZZ.out (And.intro (show g3_ = w2_.heap.size from hg) (show g3_ < w3_.heap.size from blk_lt hbox)))
  clear hb hbox hg
  have hz_BK3_0 : w3_.cell? ⟨g3_, 0, none⟩ = some (.int .i64 0) := (blk_cell BK3.out 0).trans rfl
  have hz_BK3_1 : w3_.cell? ⟨g3_, 1, none⟩ = some (.int .i64 0) := (blk_cell BK3.out 1).trans rfl
  have hz_BK3_2 : w3_.cell? ⟨g3_, 2, none⟩ = some (.slice none 0 0) := (blk_cell BK3.out 2).trans rfl
  go_wp2_with (first | ((with_reducible refine gate_store (t := 72) (p := 3) (v := .tmp 7) rfl ?_); refine hold_here ?_))
  refine hold_go ?_
  refine row_store rfl 72 (.tmp 3) (.tmp 7) rfl g3_ #[.int .i64 q0, .int .i64 q1, .slice A_WS W.length c_WS] rfl ?hy 72 _ BK3.out ?hi ?ho ?h1 rfl HB.out (show w.heap.size ≤ g3_ from (by have h_ := ZZ.out; omega)) ?_
  case hy => rfl
  case hi => kernel_rfl
  case ho => rfl
  case h1 => first | rfl | (simp [Value.oneCell']; done) | (go_simp; done)
  intro w4_ bo hk hb2
  clear BK3
  replace BK2 := Aside0.mk (blk_keptIn BK2.out hk (by have h_ := ZZ.out; omega))
  replace WS := Aside0.mk (AR.kept WS.out hk (by have h_ := ZZ.out; omega))
  replace HB := Aside0.mk hb2
  clear hz_BK3_0 hz_BK3_1 hz_BK3_2
  replace ZZ := Aside0.mk (And.intro ZZ.out (show w3_.heap.size ≤ w4_.heap.size from hk.1))
  have BK3 := Aside0.mk bo
  clear bo hk hb2
  have hz_BK3_0 : w4_.cell? ⟨g3_, 0, none⟩ = some (.int .i64 q0) := (blk_cell BK3.out 0).trans rfl
  have hz_BK3_1 : w4_.cell? ⟨g3_, 1, none⟩ = some (.int .i64 q1) := (blk_cell BK3.out 1).trans rfl
  have hz_BK3_2 : w4_.cell? ⟨g3_, 2, none⟩ = some (.slice A_WS W.length c_WS) := (blk_cell BK3.out 2).trans rfl
  go_wp2_with (first | ((with_reducible refine gate_store (t := 53) (p := 2) (v := .tmp 32) rfl ?_); refine hold_here ?_))
  refine hold_go ?_
  refine row_store rfl 53 (.tmp 2) (.tmp 32) rfl g2_ #[.int .i64 5, .int .i64 0, .int .i64 0, .slice none 0 0] rfl ?hy 53 _ BK2.out ?hi ?ho ?h1 rfl HB.out (show w.heap.size ≤ g2_ from (by have h_ := ZZ.out; omega)) ?_
  case hy => rfl
  case hi => kernel_rfl
  case ho => rfl
  case h1 => first | rfl | (simp [Value.oneCell']; done) | (go_simp; done)
  intro w5_ bo hk hb2
  clear BK2
  replace WS := Aside0.mk (AR.kept WS.out hk (by have h_ := ZZ.out; omega))
  replace BK3 := Aside0.mk (blk_keptIn BK3.out hk (by have h_ := ZZ.out; omega))
  replace HB := Aside0.mk hb2
  clear hz_BK3_0 hz_BK3_1 hz_BK3_2
  replace ZZ := Aside0.mk (And.intro ZZ.out (show w4_.heap.size ≤ w5_.heap.size from hk.1))
  have BK2 := Aside0.mk bo
  clear bo hk hb2
  have hz_BK3_0 : w5_.cell? ⟨g3_, 0, none⟩ = some (.int .i64 q0) := (blk_cell BK3.out 0).trans rfl
  have hz_BK3_1 : w5_.cell? ⟨g3_, 1, none⟩ = some (.int .i64 q1) := (blk_cell BK3.out 1).trans rfl
  have hz_BK3_2 : w5_.cell? ⟨g3_, 2, none⟩ = some (.slice A_WS W.length c_WS) := (blk_cell BK3.out 2).trans rfl
  go_wp2
  refine bodyPost_ret (results_cell_row rfl _ _ g2_ 53 #[.int .i64 5, .int .i64 0, .int .i64 0, .slice none 0 0] (0, 0) _ rfl BK2.out Try.underlying53 rfl (by kernel_rfl)) rfl ?_
  exact ⟨none, 0, rfl, Nat.le_refl _, AR.nil _ _ _ _ _, HB.out⟩
set_option maxHeartbeats 80000000 in
set_option maxRecDepth 100000 in
theorem spec_UnpackProof_A (ku : Nat) (A0 : Option Addr) (c0 : Nat) (l0 : List Int) (q0 q1 : Int) (W : List (List Int)) (w : World) (hr0 : Kd.C (Kd.int .u8) w A0 l0.length l0) (hc0 : l0.length ≤ c0) (h_u : spec_UnpackWords.f ku l0 = some (q0, q1, W)) (h_q : q0 = 0) (h_n : W.length < 2) :
    Calls Try.prog 29 #[.slice A0 l0.length c0] w fun e w' => ∃ A c, e = .returned (.agg #[.int .i64 5, .int .i64 0, .int .i64 0, .slice A ([] : List (List Int)).length c]) ∧ ([] : List (List Int)).length ≤ c ∧ AR w.heap.size w' w.heap.size w'.heap.size A ([] : List (List Int)) ∧ Below w.heap.size w w' := by
  have hu1_ := Try.underlying53
  have hu2_ := Try.underlying25
  have hu3_ := Try.underlying72
  have HR0 := Aside0.mk hr0
  have HC0 := Aside0.mk hc0
  have H_u := Aside0.mk h_u
  have H_q := Aside0.mk h_q
  have H_n := Aside0.mk h_n
  have HB := Aside0.mk (Below.refl w.heap.size w)
  have ZZ := Aside0.mk (Nat.le_refl w.heap.size)
  have cq0_ : (q0 == 0) = true := beq_iff_eq.2 h_q
  have cq1_ : (q0 != 0) = false := bne_eq_false_iff_eq.2 h_q
  have cn0_ : decide ((W.length : Int) < 2) = true := decide_eq_true (by omega)
  have cn1_ : decide (W.length < 2) = true := decide_eq_true h_n
  clear hr0 hc0 h_u h_q h_n
  go_enter Try.func29, Try.ntmps29
  go_wp2_with (first | ((with_reducible refine gate_dst (N := 2) rfl ?_); refine hold_here ?_))
  refine hold_go ?_
  refine box_event (N := 2) (cs := #[.int .i64 0, .int .i64 0, .int .i64 0, .slice none 0 0]) (t := 53) ?hgb rfl ?hrb ?_
  case hgb => rfl
  case hrb => first | (go_simp; done) | (go_simp; rfl)
  intro g2_ hg w1_ hbox hb
  replace HB := Aside0.mk (below_step HB.out hb)
  replace ZZ := Aside0.mk (And.intro ZZ.out (show w.heap.size ≤ w1_.heap.size from hb.size))
  have BK2 := Aside0.mk hbox
  replace ZZ := Aside0.mk (And.intro ZZ.out (And.intro (show g2_ = w.heap.size from hg) (show g2_ < w1_.heap.size from blk_lt hbox)))
  clear hb hbox hg
  go_wp2_with (first | (go_at_call 52; refine hold_here ?_))
  refine hold_go ?_
  refine (spec_UnpackWords.calls _ A0 c0 l0 q0 q1 W _ ?s1 ?s2 H_u.out).mono ?_
  case s1 => exact Kd.C_below HR0.out HB.out
  case s2 => exact HC0.out
  rintro e w2_ ⟨v, rfl, ho, hb⟩
  replace BK2 := Aside0.mk (blk_below BK2.out hb)
  replace HB := Aside0.mk (below_step HB.out hb)
  replace ZZ := Aside0.mk (And.intro ZZ.out (show w1_.heap.size ≤ w2_.heap.size from hb.size))
  obtain ⟨A_WS, c_WS, ev_, hc_WS, hA_WS⟩ := AR_of_S (base := w.heap.size) ho (show w.heap.size ≤ w1_.heap.size from (by have h_ := ZZ.out; omega))
  subst ev_
  have HC_WS := Aside0.mk hc_WS
  have WS := Aside0.mk (show AR w.heap.size w2_ w1_.heap.size w2_.heap.size A_WS W from hA_WS)
  clear hc_WS hA_WS ho
  clear hb
  go_wp2_with (first | ((with_reducible refine gate_dst (N := 3) rfl ?_); refine hold_here ?_))
  refine hold_go ?_
  refine box_event (N := 3) (cs := #[.int .i64 0, .int .i64 0, .slice none 0 0]) (t := 72) ?hgb rfl ?hrb ?_
  case hgb => rfl
  case hrb => first | (go_simp; done) | (go_simp; rfl)
  intro g3_ hg w3_ hbox hb
  replace BK2 := Aside0.mk (blk_below BK2.out hb)
  replace WS := Aside0.mk (AR.below WS.out hb)
  replace HB := Aside0.mk (below_step HB.out hb)
  replace ZZ := Aside0.mk (And.intro ZZ.out (show w2_.heap.size ≤ w3_.heap.size from hb.size))
  have BK3 := Aside0.mk hbox
  replace ZZ := Aside0.mk (And.intro ZZ.out (And.intro (show g3_ = w2_.heap.size from hg) (show g3_ < w3_.heap.size from blk_lt hbox)))
  clear hb hbox hg
  have hz_BK3_0 : w3_.cell? ⟨g3_, 0, none⟩ = some (.int .i64 0) := (blk_cell BK3.out 0).trans rfl
  have hz_BK3_1 : w3_.cell? ⟨g3_, 1, none⟩ = some (.int .i64 0) := (blk_cell BK3.out 1).trans rfl
  have hz_BK3_2 : w3_.cell? ⟨g3_, 2, none⟩ = some (.slice none 0 0) := (blk_cell BK3.out 2).trans rfl
  go_wp2_with (first | ((with_reducible refine gate_store (t := 72) (p := 3) (v := .tmp 7) rfl ?_); refine hold_here ?_))
  refine hold_go ?_
  refine row_store rfl 72 (.tmp 3) (.tmp 7) rfl g3_ #[.int .i64 q0, .int .i64 q1, .slice A_WS W.length c_WS] rfl ?hy 72 _ BK3.out ?hi ?ho ?h1 rfl HB.out (show w.heap.size ≤ g3_ from (by have h_ := ZZ.out; omega)) ?_
  case hy => rfl
  case hi => kernel_rfl
  case ho => rfl
  case h1 => first | rfl | (simp [Value.oneCell']; done) | (go_simp; done)
  intro w4_ bo hk hb2
  clear BK3
  replace BK2 := Aside0.mk (blk_keptIn BK2.out hk (by have h_ := ZZ.out; omega))
  replace WS := Aside0.mk (AR.kept WS.out hk (by have h_ := ZZ.out; omega))
  replace HB := Aside0.mk hb2
  clear hz_BK3_0 hz_BK3_1 hz_BK3_2
  replace ZZ := Aside0.mk (And.intro ZZ.out (show w3_.heap.size ≤ w4_.heap.size from hk.1))
  have BK3 := Aside0.mk bo
  clear bo hk hb2
  have hz_BK3_0 : w4_.cell? ⟨g3_, 0, none⟩ = some (.int .i64 q0) := (blk_cell BK3.out 0).trans rfl
  have hz_BK3_1 : w4_.cell? ⟨g3_, 1, none⟩ = some (.int .i64 q1) := (blk_cell BK3.out 1).trans rfl
  have hz_BK3_2 : w4_.cell? ⟨g3_, 2, none⟩ = some (.slice A_WS W.length c_WS) := (blk_cell BK3.out 2).trans rfl
  go_wp2_with (first | ((with_reducible refine gate_store (t := 53) (p := 2) (v := .tmp 32) rfl ?_); refine hold_here ?_))
  refine hold_go ?_
  refine row_store rfl 53 (.tmp 2) (.tmp 32) rfl g2_ #[.int .i64 5, .int .i64 0, .int .i64 0, .slice none 0 0] rfl ?hy 53 _ BK2.out ?hi ?ho ?h1 rfl HB.out (show w.heap.size ≤ g2_ from (by have h_ := ZZ.out; omega)) ?_
  case hy => rfl
  case hi => kernel_rfl
  case ho => rfl
  case h1 => first | rfl | (simp [Value.oneCell']; done) | (go_simp; done)
  intro w5_ bo hk hb2
  clear BK2
  replace WS := Aside0.mk (AR.kept WS.out hk (by have h_ := ZZ.out; omega))
  replace BK3 := Aside0.mk (blk_keptIn BK3.out hk (by have h_ := ZZ.out; omega))
  replace HB := Aside0.mk hb2
  clear hz_BK3_0 hz_BK3_1 hz_BK3_2
  replace ZZ := Aside0.mk (And.intro ZZ.out (show w4_.heap.size ≤ w5_.heap.size from hk.1))
  have BK2 := Aside0.mk bo
  clear bo hk hb2
  have hz_BK3_0 : w5_.cell? ⟨g3_, 0, none⟩ = some (.int .i64 q0) := (blk_cell BK3.out 0).trans rfl
  have hz_BK3_1 : w5_.cell? ⟨g3_, 1, none⟩ = some (.int .i64 q1) := (blk_cell BK3.out 1).trans rfl
  have hz_BK3_2 : w5_.cell? ⟨g3_, 2, none⟩ = some (.slice A_WS W.length c_WS) := (blk_cell BK3.out 2).trans rfl
  go_wp2
  refine bodyPost_ret (results_cell_row rfl _ _ g2_ 53 #[.int .i64 5, .int .i64 0, .int .i64 0, .slice none 0 0] (0, 0) _ rfl BK2.out Try.underlying53 rfl (by kernel_rfl)) rfl ?_
  exact ⟨none, 0, rfl, Nat.le_refl _, AR.nil _ _ _ _ _, HB.out⟩
set_option maxHeartbeats 80000000 in
set_option maxRecDepth 100000 in
theorem spec_UnpackProof_B (ku : Nat) (A0 : Option Addr) (c0 : Nat) (l0 : List Int) (q0 q1 : Int) (W : List (List Int)) (w : World) (hr0 : Kd.C (Kd.int .u8) w A0 l0.length l0) (hc0 : l0.length ≤ c0) (h_u : spec_UnpackWords.f ku l0 = some (q0, q1, W)) (h_q : q0 = 0) (h_n : 2 ≤ W.length) (h_b : W[0]!.length ≠ 1) :
    Calls Try.prog 29 #[.slice A0 l0.length c0] w fun e w' => ∃ A c, e = .returned (.agg #[.int .i64 5, .int .i64 0, .int .i64 0, .slice A ([] : List (List Int)).length c]) ∧ ([] : List (List Int)).length ≤ c ∧ AR w.heap.size w' w.heap.size w'.heap.size A ([] : List (List Int)) ∧ Below w.heap.size w w' := by
  have hu1_ := Try.underlying53
  have hu2_ := Try.underlying25
  have hu3_ := Try.underlying72
  have HR0 := Aside0.mk hr0
  have HC0 := Aside0.mk hc0
  have H_u := Aside0.mk h_u
  have H_q := Aside0.mk h_q
  have H_n := Aside0.mk h_n
  have H_b := Aside0.mk h_b
  have HB := Aside0.mk (Below.refl w.heap.size w)
  have ZZ := Aside0.mk (Nat.le_refl w.heap.size)
  have cq0_ : (q0 == 0) = true := beq_iff_eq.2 h_q
  have cq1_ : (q0 != 0) = false := bne_eq_false_iff_eq.2 h_q
  have cn0_ : decide ((W.length : Int) < 2) = false := decide_eq_false (by omega)
  have cn1_ : decide (W.length < 2) = false := decide_eq_false (by omega)
  have cn2_ : (0 < W.length) = True := eq_true (by omega)
  have cn3_ : (1 < W.length) = True := eq_true (by omega)
  have cn4_ : ((0 : Int) < (W.length : Int)) = True := eq_true (by omega)
  have cn5_ : ((1 : Int) < (W.length : Int)) = True := eq_true (by omega)
  have cn6_ : ((2 : Int) ≤ (W.length : Int)) = True := eq_true (by omega)
  have cn7_ : (2 ≤ W.length) = True := eq_true (by omega)
  clear hr0 hc0 h_u h_q h_n h_b
  go_enter Try.func29, Try.ntmps29
  go_wp2_with (first | ((with_reducible refine gate_dst (N := 2) rfl ?_); refine hold_here ?_))
  refine hold_go ?_
  refine box_event (N := 2) (cs := #[.int .i64 0, .int .i64 0, .int .i64 0, .slice none 0 0]) (t := 53) ?hgb rfl ?hrb ?_
  case hgb => rfl
  case hrb => first | (go_simp; done) | (go_simp; rfl)
  intro g2_ hg w1_ hbox hb
  replace HB := Aside0.mk (below_step HB.out hb)
  replace ZZ := Aside0.mk (And.intro ZZ.out (show w.heap.size ≤ w1_.heap.size from hb.size))
  have BK2 := Aside0.mk hbox
  replace ZZ := Aside0.mk (And.intro ZZ.out (And.intro (show g2_ = w.heap.size from hg) (show g2_ < w1_.heap.size from blk_lt hbox)))
  clear hb hbox hg
  go_wp2_with (first | (go_at_call 52; refine hold_here ?_))
  refine hold_go ?_
  refine (spec_UnpackWords.calls _ A0 c0 l0 q0 q1 W _ ?s1 ?s2 H_u.out).mono ?_
  case s1 => exact Kd.C_below HR0.out HB.out
  case s2 => exact HC0.out
  rintro e w2_ ⟨v, rfl, ho, hb⟩
  replace BK2 := Aside0.mk (blk_below BK2.out hb)
  replace HB := Aside0.mk (below_step HB.out hb)
  replace ZZ := Aside0.mk (And.intro ZZ.out (show w1_.heap.size ≤ w2_.heap.size from hb.size))
  have hfo_ := Kd.S_form ho (by have := H_n.out; omega)
  obtain ⟨A_WS, c_WS, ev_, hc_WS, hA_WS⟩ := AR_of_S (base := w.heap.size) ho (show w.heap.size ≤ w1_.heap.size from (by have h_ := ZZ.out; omega))
  subst ev_
  have HC_WS := Aside0.mk hc_WS
  have WS := Aside0.mk (show AR w.heap.size w2_ w1_.heap.size w2_.heap.size A_WS W from hA_WS)
  clear hc_WS hA_WS ho
  obtain ⟨gw_, cw_, evw_, _⟩ := hfo_
  injection evw_ with eA_ _ eC_
  subst eA_ eC_
  clear hb
  go_wp2_with (first | ((with_reducible refine gate_dst (N := 3) rfl ?_); refine hold_here ?_))
  refine hold_go ?_
  refine box_event (N := 3) (cs := #[.int .i64 0, .int .i64 0, .slice none 0 0]) (t := 72) ?hgb rfl ?hrb ?_
  case hgb => rfl
  case hrb => first | (go_simp; done) | (go_simp; rfl)
  intro g3_ hg w3_ hbox hb
  replace BK2 := Aside0.mk (blk_below BK2.out hb)
  replace WS := Aside0.mk (AR.below WS.out hb)
  replace HB := Aside0.mk (below_step HB.out hb)
  replace ZZ := Aside0.mk (And.intro ZZ.out (show w2_.heap.size ≤ w3_.heap.size from hb.size))
  have BK3 := Aside0.mk hbox
  replace ZZ := Aside0.mk (And.intro ZZ.out (And.intro (show g3_ = w2_.heap.size from hg) (show g3_ < w3_.heap.size from blk_lt hbox)))
  clear hb hbox hg
  have hz_BK3_0 : w3_.cell? ⟨g3_, 0, none⟩ = some (.int .i64 0) := (blk_cell BK3.out 0).trans rfl
  have hz_BK3_1 : w3_.cell? ⟨g3_, 1, none⟩ = some (.int .i64 0) := (blk_cell BK3.out 1).trans rfl
  have hz_BK3_2 : w3_.cell? ⟨g3_, 2, none⟩ = some (.slice none 0 0) := (blk_cell BK3.out 2).trans rfl
  go_wp2_with (first | ((with_reducible refine gate_store (t := 72) (p := 3) (v := .tmp 7) rfl ?_); refine hold_here ?_))
  refine hold_go ?_
  refine row_store rfl 72 (.tmp 3) (.tmp 7) rfl g3_ #[.int .i64 q0, .int .i64 q1, .slice (some ⟨gw_, 0, none⟩) W.length c_WS] rfl ?hy 72 _ BK3.out ?hi ?ho ?h1 rfl HB.out (show w.heap.size ≤ g3_ from (by have h_ := ZZ.out; omega)) ?_
  case hy => rfl
  case hi => kernel_rfl
  case ho => rfl
  case h1 => first | rfl | (simp [Value.oneCell']; done) | (go_simp; done)
  intro w4_ bo hk hb2
  clear BK3
  replace BK2 := Aside0.mk (blk_keptIn BK2.out hk (by have h_ := ZZ.out; omega))
  replace WS := Aside0.mk (AR.kept WS.out hk (by have h_ := ZZ.out; omega))
  replace HB := Aside0.mk hb2
  clear hz_BK3_0 hz_BK3_1 hz_BK3_2
  replace ZZ := Aside0.mk (And.intro ZZ.out (show w3_.heap.size ≤ w4_.heap.size from hk.1))
  have BK3 := Aside0.mk bo
  clear bo hk hb2
  have hz_BK3_0 : w4_.cell? ⟨g3_, 0, none⟩ = some (.int .i64 q0) := (blk_cell BK3.out 0).trans rfl
  have hz_BK3_1 : w4_.cell? ⟨g3_, 1, none⟩ = some (.int .i64 q1) := (blk_cell BK3.out 1).trans rfl
  have hz_BK3_2 : w4_.cell? ⟨g3_, 2, none⟩ = some (.slice (some ⟨gw_, 0, none⟩) W.length c_WS) := (blk_cell BK3.out 2).trans rfl
  obtain ⟨ad_, B0_, d0_, eA_, hx0_, hl0_, hi0_⟩ := word_at (Kd.F_now (AR.foot WS.out)) 0 (by have := H_n.out; omega)
  obtain ⟨ad2_, B1_, d1_, eA2_, hx1_, hl1_, hi1_⟩ := word_at (Kd.F_now (AR.foot WS.out)) 1 (by have := H_n.out; omega)
  obtain rfl := Option.some.inj eA_
  obtain rfl := Option.some.inj eA2_
  rw [Addr.add_zero'] at hx0_
  replace hx1_ := (show w4_.cell? ⟨gw_, 1, none⟩ = _ from hx1_)
  obtain ⟨n0_, hn0_⟩ : ∃ n, W[0]!.length = n := ⟨_, rfl⟩
  rw [hn0_] at hx0_
  have cb_ : ((n0_ : Int) != 1) = true := bne_iff_ne.2 (by have := H_b.out; omega)
  clear hn0_ hl0_ hi0_ hl1_ hi1_ hx1_
  go_wp2_with (first | ((with_reducible refine gate_store (t := 53) (p := 2) (v := .tmp 32) rfl ?_); refine hold_here ?_))
  refine hold_go ?_
  refine row_store rfl 53 (.tmp 2) (.tmp 32) rfl g2_ #[.int .i64 5, .int .i64 0, .int .i64 0, .slice none 0 0] rfl ?hy 53 _ BK2.out ?hi ?ho ?h1 rfl HB.out (show w.heap.size ≤ g2_ from (by have h_ := ZZ.out; omega)) ?_
  case hy => rfl
  case hi => kernel_rfl
  case ho => rfl
  case h1 => first | rfl | (simp [Value.oneCell']; done) | (go_simp; done)
  intro w5_ bo hk hb2
  clear BK2
  replace WS := Aside0.mk (AR.kept WS.out hk (by have h_ := ZZ.out; omega))
  replace BK3 := Aside0.mk (blk_keptIn BK3.out hk (by have h_ := ZZ.out; omega))
  replace HB := Aside0.mk hb2
  clear hz_BK3_0 hz_BK3_1 hz_BK3_2
  replace ZZ := Aside0.mk (And.intro ZZ.out (show w4_.heap.size ≤ w5_.heap.size from hk.1))
  have BK2 := Aside0.mk bo
  clear bo hk hb2
  have hz_BK3_0 : w5_.cell? ⟨g3_, 0, none⟩ = some (.int .i64 q0) := (blk_cell BK3.out 0).trans rfl
  have hz_BK3_1 : w5_.cell? ⟨g3_, 1, none⟩ = some (.int .i64 q1) := (blk_cell BK3.out 1).trans rfl
  have hz_BK3_2 : w5_.cell? ⟨g3_, 2, none⟩ = some (.slice (some ⟨gw_, 0, none⟩) W.length c_WS) := (blk_cell BK3.out 2).trans rfl
  go_wp2
  refine bodyPost_ret (results_cell_row rfl _ _ g2_ 53 #[.int .i64 5, .int .i64 0, .int .i64 0, .slice none 0 0] (0, 0) _ rfl BK2.out Try.underlying53 rfl (by kernel_rfl)) rfl ?_
  exact ⟨none, 0, rfl, Nat.le_refl _, AR.nil _ _ _ _ _, HB.out⟩
set_option maxHeartbeats 80000000 in
set_option maxRecDepth 100000 in
theorem spec_UnpackProof_C (ku : Nat) (A0 : Option Addr) (c0 : Nat) (l0 : List Int) (q0 q1 : Int) (W : List (List Int)) (x : Int) (w : World) (hr0 : Kd.C (Kd.int .u8) w A0 l0.length l0) (hc0 : l0.length ≤ c0) (h_u : spec_UnpackWords.f ku l0 = some (q0, q1, W)) (h_q : q0 = 0) (h_n : 2 ≤ W.length) (h_x : W[0]! = [x]) (h_b : W[1]!.length ≠ 1) :
    Calls Try.prog 29 #[.slice A0 l0.length c0] w fun e w' => ∃ A c, e = .returned (.agg #[.int .i64 5, .int .i64 0, .int .i64 0, .slice A ([] : List (List Int)).length c]) ∧ ([] : List (List Int)).length ≤ c ∧ AR w.heap.size w' w.heap.size w'.heap.size A ([] : List (List Int)) ∧ Below w.heap.size w w' := by
  have hu1_ := Try.underlying53
  have hu2_ := Try.underlying25
  have hu3_ := Try.underlying72
  have HR0 := Aside0.mk hr0
  have HC0 := Aside0.mk hc0
  have H_u := Aside0.mk h_u
  have H_q := Aside0.mk h_q
  have H_n := Aside0.mk h_n
  have H_x := Aside0.mk h_x
  have H_b := Aside0.mk h_b
  have HB := Aside0.mk (Below.refl w.heap.size w)
  have ZZ := Aside0.mk (Nat.le_refl w.heap.size)
  have cq0_ : (q0 == 0) = true := beq_iff_eq.2 h_q
  have cq1_ : (q0 != 0) = false := bne_eq_false_iff_eq.2 h_q
  have cn0_ : decide ((W.length : Int) < 2) = false := decide_eq_false (by omega)
  have cn1_ : decide (W.length < 2) = false := decide_eq_false (by omega)
  have cn2_ : (0 < W.length) = True := eq_true (by omega)
  have cn3_ : (1 < W.length) = True := eq_true (by omega)
  have cn4_ : ((0 : Int) < (W.length : Int)) = True := eq_true (by omega)
  have cn5_ : ((1 : Int) < (W.length : Int)) = True := eq_true (by omega)
  have cn6_ : ((2 : Int) ≤ (W.length : Int)) = True := eq_true (by omega)
  have cn7_ : (2 ≤ W.length) = True := eq_true (by omega)
  clear hr0 hc0 h_u h_q h_n h_x h_b
  go_enter Try.func29, Try.ntmps29
  go_wp2_with (first | ((with_reducible refine gate_dst (N := 2) rfl ?_); refine hold_here ?_))
  refine hold_go ?_
  refine box_event (N := 2) (cs := #[.int .i64 0, .int .i64 0, .int .i64 0, .slice none 0 0]) (t := 53) ?hgb rfl ?hrb ?_
  case hgb => rfl
  case hrb => first | (go_simp; done) | (go_simp; rfl)
  intro g2_ hg w1_ hbox hb
  replace HB := Aside0.mk (below_step HB.out hb)
  replace ZZ := Aside0.mk (And.intro ZZ.out (show w.heap.size ≤ w1_.heap.size from hb.size))
  have BK2 := Aside0.mk hbox
  replace ZZ := Aside0.mk (And.intro ZZ.out (And.intro (show g2_ = w.heap.size from hg) (show g2_ < w1_.heap.size from blk_lt hbox)))
  clear hb hbox hg
  go_wp2_with (first | (go_at_call 52; refine hold_here ?_))
  refine hold_go ?_
  refine (spec_UnpackWords.calls _ A0 c0 l0 q0 q1 W _ ?s1 ?s2 H_u.out).mono ?_
  case s1 => exact Kd.C_below HR0.out HB.out
  case s2 => exact HC0.out
  rintro e w2_ ⟨v, rfl, ho, hb⟩
  replace BK2 := Aside0.mk (blk_below BK2.out hb)
  replace HB := Aside0.mk (below_step HB.out hb)
  replace ZZ := Aside0.mk (And.intro ZZ.out (show w1_.heap.size ≤ w2_.heap.size from hb.size))
  have hfo_ := Kd.S_form ho (by have := H_n.out; omega)
  obtain ⟨A_WS, c_WS, ev_, hc_WS, hA_WS⟩ := AR_of_S (base := w.heap.size) ho (show w.heap.size ≤ w1_.heap.size from (by have h_ := ZZ.out; omega))
  subst ev_
  have HC_WS := Aside0.mk hc_WS
  have WS := Aside0.mk (show AR w.heap.size w2_ w1_.heap.size w2_.heap.size A_WS W from hA_WS)
  clear hc_WS hA_WS ho
  obtain ⟨gw_, cw_, evw_, _⟩ := hfo_
  injection evw_ with eA_ _ eC_
  subst eA_ eC_
  clear hb
  go_wp2_with (first | ((with_reducible refine gate_dst (N := 3) rfl ?_); refine hold_here ?_))
  refine hold_go ?_
  refine box_event (N := 3) (cs := #[.int .i64 0, .int .i64 0, .slice none 0 0]) (t := 72) ?hgb rfl ?hrb ?_
  case hgb => rfl
  case hrb => first | (go_simp; done) | (go_simp; rfl)
  intro g3_ hg w3_ hbox hb
  replace BK2 := Aside0.mk (blk_below BK2.out hb)
  replace WS := Aside0.mk (AR.below WS.out hb)
  replace HB := Aside0.mk (below_step HB.out hb)
  replace ZZ := Aside0.mk (And.intro ZZ.out (show w2_.heap.size ≤ w3_.heap.size from hb.size))
  have BK3 := Aside0.mk hbox
  replace ZZ := Aside0.mk (And.intro ZZ.out (And.intro (show g3_ = w2_.heap.size from hg) (show g3_ < w3_.heap.size from blk_lt hbox)))
  clear hb hbox hg
  have hz_BK3_0 : w3_.cell? ⟨g3_, 0, none⟩ = some (.int .i64 0) := (blk_cell BK3.out 0).trans rfl
  have hz_BK3_1 : w3_.cell? ⟨g3_, 1, none⟩ = some (.int .i64 0) := (blk_cell BK3.out 1).trans rfl
  have hz_BK3_2 : w3_.cell? ⟨g3_, 2, none⟩ = some (.slice none 0 0) := (blk_cell BK3.out 2).trans rfl
  go_wp2_with (first | ((with_reducible refine gate_store (t := 72) (p := 3) (v := .tmp 7) rfl ?_); refine hold_here ?_))
  refine hold_go ?_
  refine row_store rfl 72 (.tmp 3) (.tmp 7) rfl g3_ #[.int .i64 q0, .int .i64 q1, .slice (some ⟨gw_, 0, none⟩) W.length c_WS] rfl ?hy 72 _ BK3.out ?hi ?ho ?h1 rfl HB.out (show w.heap.size ≤ g3_ from (by have h_ := ZZ.out; omega)) ?_
  case hy => rfl
  case hi => kernel_rfl
  case ho => rfl
  case h1 => first | rfl | (simp [Value.oneCell']; done) | (go_simp; done)
  intro w4_ bo hk hb2
  clear BK3
  replace BK2 := Aside0.mk (blk_keptIn BK2.out hk (by have h_ := ZZ.out; omega))
  replace WS := Aside0.mk (AR.kept WS.out hk (by have h_ := ZZ.out; omega))
  replace HB := Aside0.mk hb2
  clear hz_BK3_0 hz_BK3_1 hz_BK3_2
  replace ZZ := Aside0.mk (And.intro ZZ.out (show w3_.heap.size ≤ w4_.heap.size from hk.1))
  have BK3 := Aside0.mk bo
  clear bo hk hb2
  have hz_BK3_0 : w4_.cell? ⟨g3_, 0, none⟩ = some (.int .i64 q0) := (blk_cell BK3.out 0).trans rfl
  have hz_BK3_1 : w4_.cell? ⟨g3_, 1, none⟩ = some (.int .i64 q1) := (blk_cell BK3.out 1).trans rfl
  have hz_BK3_2 : w4_.cell? ⟨g3_, 2, none⟩ = some (.slice (some ⟨gw_, 0, none⟩) W.length c_WS) := (blk_cell BK3.out 2).trans rfl
  obtain ⟨ad_, B0_, d0_, eA_, hx0_, hl0_, hi0_⟩ := word_at (Kd.F_now (AR.foot WS.out)) 0 (by have := H_n.out; omega)
  obtain ⟨ad2_, B1_, d1_, eA2_, hx1_, hl1_, hi1_⟩ := word_at (Kd.F_now (AR.foot WS.out)) 1 (by have := H_n.out; omega)
  obtain rfl := Option.some.inj eA_
  obtain rfl := Option.some.inj eA2_
  rw [Addr.add_zero'] at hx0_
  replace hx1_ := (show w4_.cell? ⟨gw_, 1, none⟩ = _ from hx1_)
  rw [H_x.out] at hx0_
  obtain ⟨n1_, hn1_⟩ : ∃ n, W[1]!.length = n := ⟨_, rfl⟩
  rw [hn1_] at hx1_
  have cb_ : ((n1_ : Int) != 1) = true := bne_iff_ne.2 (by have := H_b.out; omega)
  simp only [List.length_cons, List.length_nil, Nat.zero_add] at hx0_
  clear hn1_ hl0_ hi0_ hl1_ hi1_
  go_wp2_with (first | ((with_reducible refine gate_store (t := 53) (p := 2) (v := .tmp 32) rfl ?_); refine hold_here ?_))
  refine hold_go ?_
  refine row_store rfl 53 (.tmp 2) (.tmp 32) rfl g2_ #[.int .i64 5, .int .i64 0, .int .i64 0, .slice none 0 0] rfl ?hy 53 _ BK2.out ?hi ?ho ?h1 rfl HB.out (show w.heap.size ≤ g2_ from (by have h_ := ZZ.out; omega)) ?_
  case hy => rfl
  case hi => kernel_rfl
  case ho => rfl
  case h1 => first | rfl | (simp [Value.oneCell']; done) | (go_simp; done)
  intro w5_ bo hk hb2
  clear BK2
  replace WS := Aside0.mk (AR.kept WS.out hk (by have h_ := ZZ.out; omega))
  replace BK3 := Aside0.mk (blk_keptIn BK3.out hk (by have h_ := ZZ.out; omega))
  replace HB := Aside0.mk hb2
  clear hz_BK3_0 hz_BK3_1 hz_BK3_2
  replace ZZ := Aside0.mk (And.intro ZZ.out (show w4_.heap.size ≤ w5_.heap.size from hk.1))
  have BK2 := Aside0.mk bo
  clear bo hk hb2
  have hz_BK3_0 : w5_.cell? ⟨g3_, 0, none⟩ = some (.int .i64 q0) := (blk_cell BK3.out 0).trans rfl
  have hz_BK3_1 : w5_.cell? ⟨g3_, 1, none⟩ = some (.int .i64 q1) := (blk_cell BK3.out 1).trans rfl
  have hz_BK3_2 : w5_.cell? ⟨g3_, 2, none⟩ = some (.slice (some ⟨gw_, 0, none⟩) W.length c_WS) := (blk_cell BK3.out 2).trans rfl
  go_wp2
  refine bodyPost_ret (results_cell_row rfl _ _ g2_ 53 #[.int .i64 5, .int .i64 0, .int .i64 0, .slice none 0 0] (0, 0) _ rfl BK2.out Try.underlying53 rfl (by kernel_rfl)) rfl ?_
  exact ⟨none, 0, rfl, Nat.le_refl _, AR.nil _ _ _ _ _, HB.out⟩
set_option maxHeartbeats 80000000 in
set_option maxRecDepth 100000 in
theorem spec_UnpackProof_D (ku : Nat) (A0 : Option Addr) (c0 : Nat) (l0 : List Int) (q0 q1 : Int) (W : List (List Int)) (x : Int) (y : Int) (ps : List (List Int)) (b : Bool) (kp : Nat) (w : World) (hr0 : Kd.C (Kd.int .u8) w A0 l0.length l0) (hc0 : l0.length ≤ c0) (h_u : spec_UnpackWords.f ku l0 = some (q0, q1, W)) (h_q : q0 = 0) (h_n : 2 ≤ W.length) (h_x : W[0]! = [x]) (h_y : W[1]! = [y]) (h_bx : 0 ≤ x ∧ x ≤ 255) (h_by : 0 ≤ y ∧ y ≤ 255) (h_d : W.drop 2 = ps) (h_p : spec_l3Right.f kp x y ps = some b) :
    Calls Try.prog 29 #[.slice A0 l0.length c0] w fun e w' => ∃ A c, e = .returned (.agg #[.int .i64 (cond b 0 5), .int .i64 (cond b x 0), .int .i64 (cond b y 0), .slice A (cond b ps []).length c]) ∧ (cond b ps []).length ≤ c ∧ AR w.heap.size w' w.heap.size w'.heap.size A (cond b ps []) ∧ Below w.heap.size w w' := by
  have hu1_ := Try.underlying53
  have hu2_ := Try.underlying25
  have hu3_ := Try.underlying72
  have HR0 := Aside0.mk hr0
  have HC0 := Aside0.mk hc0
  have H_u := Aside0.mk h_u
  have H_q := Aside0.mk h_q
  have H_n := Aside0.mk h_n
  have H_x := Aside0.mk h_x
  have H_y := Aside0.mk h_y
  have H_bx := Aside0.mk h_bx
  have H_by := Aside0.mk h_by
  have H_d := Aside0.mk h_d
  have H_p := Aside0.mk h_p
  have HB := Aside0.mk (Below.refl w.heap.size w)
  have ZZ := Aside0.mk (Nat.le_refl w.heap.size)
  have cq0_ : (q0 == 0) = true := beq_iff_eq.2 h_q
  have cq1_ : (q0 != 0) = false := bne_eq_false_iff_eq.2 h_q
  have cn0_ : decide ((W.length : Int) < 2) = false := decide_eq_false (by omega)
  have cn1_ : decide (W.length < 2) = false := decide_eq_false (by omega)
  have cn2_ : (0 < W.length) = True := eq_true (by omega)
  have cn3_ : (1 < W.length) = True := eq_true (by omega)
  have cn4_ : ((0 : Int) < (W.length : Int)) = True := eq_true (by omega)
  have cn5_ : ((1 : Int) < (W.length : Int)) = True := eq_true (by omega)
  have cn6_ : ((2 : Int) ≤ (W.length : Int)) = True := eq_true (by omega)
  have cn7_ : (2 ≤ W.length) = True := eq_true (by omega)
  clear hr0 hc0 h_u h_q h_n h_x h_y h_bx h_by h_d h_p
  go_enter Try.func29, Try.ntmps29
  go_wp2_with (first | ((with_reducible refine gate_dst (N := 2) rfl ?_); refine hold_here ?_))
  refine hold_go ?_
  refine box_event (N := 2) (cs := #[.int .i64 0, .int .i64 0, .int .i64 0, .slice none 0 0]) (t := 53) ?hgb rfl ?hrb ?_
  case hgb => rfl
  case hrb => first | (go_simp; done) | (go_simp; rfl)
  intro g2_ hg w1_ hbox hb
  replace HB := Aside0.mk (below_step HB.out hb)
  replace ZZ := Aside0.mk (And.intro ZZ.out (show w.heap.size ≤ w1_.heap.size from hb.size))
  have BK2 := Aside0.mk hbox
  replace ZZ := Aside0.mk (And.intro ZZ.out (And.intro (show g2_ = w.heap.size from hg) (show g2_ < w1_.heap.size from blk_lt hbox)))
  clear hb hbox hg
  go_wp2_with (first | (go_at_call 52; refine hold_here ?_))
  refine hold_go ?_
  refine (spec_UnpackWords.calls _ A0 c0 l0 q0 q1 W _ ?s1 ?s2 H_u.out).mono ?_
  case s1 => exact Kd.C_below HR0.out HB.out
  case s2 => exact HC0.out
  rintro e w2_ ⟨v, rfl, ho, hb⟩
  replace BK2 := Aside0.mk (blk_below BK2.out hb)
  replace HB := Aside0.mk (below_step HB.out hb)
  replace ZZ := Aside0.mk (And.intro ZZ.out (show w1_.heap.size ≤ w2_.heap.size from hb.size))
  have hfo_ := Kd.S_form ho (by have := H_n.out; omega)
  obtain ⟨A_WS, c_WS, ev_, hc_WS, hA_WS⟩ := AR_of_S (base := w.heap.size) ho (show w.heap.size ≤ w1_.heap.size from (by have h_ := ZZ.out; omega))
  subst ev_
  have HC_WS := Aside0.mk hc_WS
  have WS := Aside0.mk (show AR w.heap.size w2_ w1_.heap.size w2_.heap.size A_WS W from hA_WS)
  clear hc_WS hA_WS ho
  obtain ⟨gw_, cw_, evw_, _⟩ := hfo_
  injection evw_ with eA_ _ eC_
  subst eA_ eC_
  clear hb
  go_wp2_with (first | ((with_reducible refine gate_dst (N := 3) rfl ?_); refine hold_here ?_))
  refine hold_go ?_
  refine box_event (N := 3) (cs := #[.int .i64 0, .int .i64 0, .slice none 0 0]) (t := 72) ?hgb rfl ?hrb ?_
  case hgb => rfl
  case hrb => first | (go_simp; done) | (go_simp; rfl)
  intro g3_ hg w3_ hbox hb
  replace BK2 := Aside0.mk (blk_below BK2.out hb)
  replace WS := Aside0.mk (AR.below WS.out hb)
  replace HB := Aside0.mk (below_step HB.out hb)
  replace ZZ := Aside0.mk (And.intro ZZ.out (show w2_.heap.size ≤ w3_.heap.size from hb.size))
  have BK3 := Aside0.mk hbox
  replace ZZ := Aside0.mk (And.intro ZZ.out (And.intro (show g3_ = w2_.heap.size from hg) (show g3_ < w3_.heap.size from blk_lt hbox)))
  clear hb hbox hg
  have hz_BK3_0 : w3_.cell? ⟨g3_, 0, none⟩ = some (.int .i64 0) := (blk_cell BK3.out 0).trans rfl
  have hz_BK3_1 : w3_.cell? ⟨g3_, 1, none⟩ = some (.int .i64 0) := (blk_cell BK3.out 1).trans rfl
  have hz_BK3_2 : w3_.cell? ⟨g3_, 2, none⟩ = some (.slice none 0 0) := (blk_cell BK3.out 2).trans rfl
  go_wp2_with (first | ((with_reducible refine gate_store (t := 72) (p := 3) (v := .tmp 7) rfl ?_); refine hold_here ?_))
  refine hold_go ?_
  refine row_store rfl 72 (.tmp 3) (.tmp 7) rfl g3_ #[.int .i64 q0, .int .i64 q1, .slice (some ⟨gw_, 0, none⟩) W.length c_WS] rfl ?hy 72 _ BK3.out ?hi ?ho ?h1 rfl HB.out (show w.heap.size ≤ g3_ from (by have h_ := ZZ.out; omega)) ?_
  case hy => rfl
  case hi => kernel_rfl
  case ho => rfl
  case h1 => first | rfl | (simp [Value.oneCell']; done) | (go_simp; done)
  intro w4_ bo hk hb2
  clear BK3
  replace BK2 := Aside0.mk (blk_keptIn BK2.out hk (by have h_ := ZZ.out; omega))
  replace WS := Aside0.mk (AR.kept WS.out hk (by have h_ := ZZ.out; omega))
  replace HB := Aside0.mk hb2
  clear hz_BK3_0 hz_BK3_1 hz_BK3_2
  replace ZZ := Aside0.mk (And.intro ZZ.out (show w3_.heap.size ≤ w4_.heap.size from hk.1))
  have BK3 := Aside0.mk bo
  clear bo hk hb2
  have hz_BK3_0 : w4_.cell? ⟨g3_, 0, none⟩ = some (.int .i64 q0) := (blk_cell BK3.out 0).trans rfl
  have hz_BK3_1 : w4_.cell? ⟨g3_, 1, none⟩ = some (.int .i64 q1) := (blk_cell BK3.out 1).trans rfl
  have hz_BK3_2 : w4_.cell? ⟨g3_, 2, none⟩ = some (.slice (some ⟨gw_, 0, none⟩) W.length c_WS) := (blk_cell BK3.out 2).trans rfl
  obtain ⟨ad_, B0_, d0_, eA_, hx0_, hl0_, hi0_⟩ := word_at (Kd.F_now (AR.foot WS.out)) 0 (by have := H_n.out; omega)
  obtain ⟨ad2_, B1_, d1_, eA2_, hx1_, hl1_, hi1_⟩ := word_at (Kd.F_now (AR.foot WS.out)) 1 (by have := H_n.out; omega)
  obtain rfl := Option.some.inj eA_
  obtain rfl := Option.some.inj eA2_
  rw [Addr.add_zero'] at hx0_
  replace hx1_ := (show w4_.cell? ⟨gw_, 1, none⟩ = _ from hx1_)
  rw [H_x.out] at hx0_ hi0_
  rw [H_y.out] at hx1_ hi1_
  simp only [List.length_cons, List.length_nil, Nat.zero_add] at hx0_ hx1_ hi0_ hi1_
  obtain ⟨b0_, e0_, hv0_⟩ := byte_at hi0_
  obtain ⟨b1_, e1_, hv1_⟩ := byte_at hi1_
  subst e0_ e1_
  clear hi0_ hi1_ hl0_ hl1_
  try go_wp2_with fail
  replace BK2 := Aside0.mk (blk_drew BK2.out)
  replace WS := Aside0.mk (AR.drew WS.out)
  replace BK3 := Aside0.mk (blk_drew BK3.out)
  replace HB := Aside0.mk (below_drew1 HB.out)
  replace ZZ := Aside0.mk (And.intro ZZ.out (show w4_.heap.size ≤ w4_.drew.heap.size from Nat.le_refl _))
  clear hz_BK3_0 hz_BK3_1 hz_BK3_2
  refine start_ (n := 17) (S := fun w' => w'.cell? (⟨gw_, 0, none⟩) = some (.slice (some b0_) 1 d0_) ∧ w'.cell? (⟨gw_, 1, none⟩) = some (.slice (some b1_) 1 d1_) ∧ w'.cell? (b0_) = some (.int .u8 x) ∧ w'.cell? (b1_) = some (.int .u8 y)) (ds := [16]) #[false, false, false, false, false, false, false, false, false, false, false, false, false, false, false, false, false] (by kernel_rfl) rfl rfl ⟨hx0_, hx1_, hv0_, hv1_⟩ (fun hHeld => ?_)
  generalize w4_.drew = w5_ at BK2 WS BK3 HB ZZ hHeld ⊢
  clear hx0_ hx1_ hv0_ hv1_
  have HWX := Aside0.mk (w64 (n := x) (by have := H_bx.out; omega) (by have := H_bx.out; omega))
  have HWY := Aside0.mk (w64 (n := y) (by have := H_by.out; omega) (by have := H_by.out; omega))
  have hPS_ := AR.drop WS.out 2 c_WS H_n.out HC_WS.out
  rw [H_d.out] at hPS_
  obtain ⟨A_PS, eAP_⟩ : ∃ A : Option Addr, (if c_WS = 2 then some ⟨gw_, 0, none⟩ else some ⟨gw_, 2, none⟩) = A := ⟨_, rfl⟩
  rw [show (if c_WS = 2 then some (⟨gw_, 0, none⟩ : Addr) else (some (⟨gw_, 0, none⟩ : Addr)).map (·.add 2)) = A_PS from eAP_] at hPS_
  obtain ⟨c_PS, eCP_⟩ : ∃ c, c_WS - 2 = c := ⟨_, rfl⟩
  have hdl_ := congrArg List.length H_d.out
  rw [List.length_drop] at hdl_
  have HC_PS := Aside0.mk (show ps.length ≤ c_PS by have := HC_WS.out; omega)
  have PS := Aside0.mk hPS_
  have EAP := Aside0.mk eAP_
  have ECP := Aside0.mk eCP_
  have EDL := Aside0.mk hdl_
  clear hPS_ eAP_ eCP_ hdl_ WS
  refine pure_ (i := 0) (N := some 33) (v := ?_) (a' := ?_) #[true, false, false, false, false, false, false, false, false, false, false, false, false, false, false, false, false] rfl rfl (by kernel_rfl) (fun _ _ _ h => h) (Or.inl ⟨by rfl, ?_⟩) ?_ ?_
  rotate_left
  · intro w'
    go_simp
    with_reducible rfl
  rotate_left
  · simp only [Act.put, List.setIfInBounds_toArray, List.set_cons_zero, List.set_cons_succ, i64_w, i32_w]
    rfl
  refine pure_ (i := 1) (N := some 34) (v := ?_) (a' := ?_) #[true, true, false, false, false, false, false, false, false, false, false, false, false, false, false, false, false] rfl rfl (by kernel_rfl) (fun _ _ _ h => h) (Or.inl ⟨by rfl, ?_⟩) ?_ ?_
  rotate_left
  · intro w'
    go_simp
    with_reducible rfl
  rotate_left
  · simp only [Act.put, List.setIfInBounds_toArray, List.set_cons_zero, List.set_cons_succ, i64_w, i32_w]
    rfl
  refine take_ (i := 2) (N := some 35) (v := ?_) (a' := ?_) #[true, true, true, false, false, false, false, false, false, false, false, false, false, false, false, false, false] rfl rfl (by kernel_rfl) (fun _ _ _ h => h) (Or.inl ⟨by rfl, ?_⟩) hHeld ?_ ?_
  rotate_left
  · rintro w' ⟨s0, s1, s2, s3⟩
    go_simp
    with_reducible rfl
  rotate_left
  · simp only [Act.put, List.setIfInBounds_toArray, List.set_cons_zero, List.set_cons_succ, i64_w, i32_w]
    rfl
  refine pure_ (i := 3) (N := some 36) (v := ?_) (a' := ?_) #[true, true, true, true, false, false, false, false, false, false, false, false, false, false, false, false, false] rfl rfl (by kernel_rfl) (fun _ _ _ h => h) (Or.inl ⟨by rfl, ?_⟩) ?_ ?_
  rotate_left
  · intro w'
    go_simp
    with_reducible rfl
  rotate_left
  · simp only [Act.put, List.setIfInBounds_toArray, List.set_cons_zero, List.set_cons_succ, i64_w, i32_w]
    rfl
  refine take_ (i := 4) (N := some 37) (v := ?_) (a' := ?_) #[true, true, true, true, true, false, false, false, false, false, false, false, false, false, false, false, false] rfl rfl (by kernel_rfl) (fun _ _ _ h => h) (Or.inl ⟨by rfl, ?_⟩) hHeld ?_ ?_
  rotate_left
  · rintro w' ⟨s0, s1, s2, s3⟩
    go_simp
    with_reducible rfl
  rotate_left
  · simp only [Act.put, List.setIfInBounds_toArray, List.set_cons_zero, List.set_cons_succ, i64_w, i32_w]
    rfl
  refine pure_ (i := 5) (N := some 38) (v := .int .i64 x) (a' := ?_) #[true, true, true, true, true, true, false, false, false, false, false, false, false, false, false, false, false] rfl rfl (by kernel_rfl) (fun _ _ _ h => h) (Or.inl ⟨by rfl, ?_⟩) ?_ ?_
  · intro w'
    go_simp
    first | done | (simp only [i64_w, HWX.out]; done) | rw [i64_w, HWX.out]
  rotate_left
  · simp only [Act.put, List.setIfInBounds_toArray, List.set_cons_zero, List.set_cons_succ, i64_w, i32_w]
    rfl
  refine pure_ (i := 6) (N := some 39) (v := ?_) (a' := ?_) #[true, true, true, true, true, true, true, false, false, false, false, false, false, false, false, false, false] rfl rfl (by kernel_rfl) (fun _ _ _ h => h) (Or.inl ⟨by rfl, ?_⟩) ?_ ?_
  rotate_left
  · intro w'
    go_simp
    with_reducible rfl
  rotate_left
  · simp only [Act.put, List.setIfInBounds_toArray, List.set_cons_zero, List.set_cons_succ, i64_w, i32_w]
    rfl
  refine pure_ (i := 7) (N := some 40) (v := ?_) (a' := ?_) #[true, true, true, true, true, true, true, true, false, false, false, false, false, false, false, false, false] rfl rfl (by kernel_rfl) (fun _ _ _ h => h) (Or.inl ⟨by rfl, ?_⟩) ?_ ?_
  rotate_left
  · intro w'
    go_simp
    with_reducible rfl
  rotate_left
  · simp only [Act.put, List.setIfInBounds_toArray, List.set_cons_zero, List.set_cons_succ, i64_w, i32_w]
    rfl
  refine take_ (i := 8) (N := some 41) (v := ?_) (a' := ?_) #[true, true, true, true, true, true, true, true, true, false, false, false, false, false, false, false, false] rfl rfl (by kernel_rfl) (fun _ _ _ h => h) (Or.inl ⟨by rfl, ?_⟩) hHeld ?_ ?_
  rotate_left
  · rintro w' ⟨s0, s1, s2, s3⟩
    go_simp
    with_reducible rfl
  rotate_left
  · simp only [Act.put, List.setIfInBounds_toArray, List.set_cons_zero, List.set_cons_succ, i64_w, i32_w]
    rfl
  refine pure_ (i := 9) (N := some 42) (v := ?_) (a' := ?_) #[true, true, true, true, true, true, true, true, true, true, false, false, false, false, false, false, false] rfl rfl (by kernel_rfl) (fun _ _ _ h => h) (Or.inl ⟨by rfl, ?_⟩) ?_ ?_
  rotate_left
  · intro w'
    go_simp
    with_reducible rfl
  rotate_left
  · simp only [Act.put, List.setIfInBounds_toArray, List.set_cons_zero, List.set_cons_succ, i64_w, i32_w]
    rfl
  refine take_ (i := 10) (N := some 43) (v := ?_) (a' := ?_) #[true, true, true, true, true, true, true, true, true, true, true, false, false, false, false, false, false] rfl rfl (by kernel_rfl) (fun _ _ _ h => h) (Or.inl ⟨by rfl, ?_⟩) hHeld ?_ ?_
  rotate_left
  · rintro w' ⟨s0, s1, s2, s3⟩
    go_simp
    with_reducible rfl
  rotate_left
  · simp only [Act.put, List.setIfInBounds_toArray, List.set_cons_zero, List.set_cons_succ, i64_w, i32_w]
    rfl
  refine pure_ (i := 11) (N := some 44) (v := .int .i64 y) (a' := ?_) #[true, true, true, true, true, true, true, true, true, true, true, true, false, false, false, false, false] rfl rfl (by kernel_rfl) (fun _ _ _ h => h) (Or.inl ⟨by rfl, ?_⟩) ?_ ?_
  · intro w'
    go_simp
    first | done | (simp only [i64_w, HWY.out]; done) | rw [i64_w, HWY.out]
  rotate_left
  · simp only [Act.put, List.setIfInBounds_toArray, List.set_cons_zero, List.set_cons_succ, i64_w, i32_w]
    rfl
  refine pure_ (i := 12) (N := some 45) (v := ?_) (a' := ?_) #[true, true, true, true, true, true, true, true, true, true, true, true, true, false, false, false, false] rfl rfl (by kernel_rfl) (fun _ _ _ h => h) (Or.inl ⟨by rfl, ?_⟩) ?_ ?_
  rotate_left
  · intro w'
    go_simp
    with_reducible rfl
  rotate_left
  · simp only [Act.put, List.setIfInBounds_toArray, List.set_cons_zero, List.set_cons_succ, i64_w, i32_w]
    rfl
  refine pure_ (i := 13) (N := some 46) (v := .slice A_PS ps.length c_PS) (a' := ?_) #[true, true, true, true, true, true, true, true, true, true, true, true, true, true, false, false, false] rfl rfl (by kernel_rfl) (fun _ _ _ h => h) (Or.inl ⟨by rfl, ?_⟩) ?_ ?_
  · intro w'
    go_simp
    exact ⟨EAP.out, EDL.out, ECP.out⟩
  rotate_left
  · simp only [Act.put, List.setIfInBounds_toArray, List.set_cons_zero, List.set_cons_succ, i64_w, i32_w]
    rfl
  refine pure_ (i := 14) (N := some 47) (v := ?_) (a' := ?_) #[true, true, true, true, true, true, true, true, true, true, true, true, true, true, true, false, false] rfl rfl (by kernel_rfl) (fun _ _ _ h => h) (Or.inl ⟨by rfl, ?_⟩) ?_ ?_
  rotate_left
  · intro w'
    go_simp
    with_reducible rfl
  rotate_left
  · simp only [Act.put, List.setIfInBounds_toArray, List.set_cons_zero, List.set_cons_succ, i64_w, i32_w]
    rfl
  refine one_ (i := 15) (N := some 5) #[true, true, true, true, true, true, true, true, true, true, true, true, true, true, true, true, false] rfl rfl (by kernel_rfl) (by decide) (fun K hK => ?_)
  refine box_stepK (cs := #[.int .i64 0, .int .i64 0, .slice none 0 0]) (t := 25) (by rfl) rfl ?hr ?_
  case hr => first | (go_simp; done) | (go_simp; rfl)
  intro g5_ hg w6_ hbox hb
  have hS_ : (fun w' : World => w'.cell? (⟨gw_, 0, none⟩) = some (.slice (some b0_) 1 d0_) ∧ w'.cell? (⟨gw_, 1, none⟩) = some (.slice (some b1_) 1 d1_) ∧ w'.cell? (b0_) = some (.int .u8 x) ∧ w'.cell? (b1_) = some (.int .u8 y)) w6_ := by
    obtain ⟨s0, s1, s2, s3⟩ := hHeld
    exact ⟨(hb.cell (World.block_lt_of_cell? _ _ s0)).trans s0, (hb.cell (World.block_lt_of_cell? _ _ s1)).trans s1, (hb.cell (World.block_lt_of_cell? _ _ s2)).trans s2, (hb.cell (World.block_lt_of_cell? _ _ s3)).trans s3⟩
  replace BK2 := Aside0.mk (blk_below BK2.out hb)
  replace BK3 := Aside0.mk (blk_below BK3.out hb)
  replace PS := Aside0.mk (AR.below PS.out hb)
  replace HB := Aside0.mk (below_step HB.out hb)
  replace ZZ := Aside0.mk (And.intro ZZ.out (show w5_.heap.size ≤ w6_.heap.size from hb.size))
  have BK5 := Aside0.mk hbox
  replace ZZ := Aside0.mk (And.intro ZZ.out (And.intro (show g5_ = w5_.heap.size from hg) (show g5_ < w6_.heap.size from blk_lt hbox)))
  clear hb hbox hg
  refine hK.out _ _ hS_ (fun hHeld2 => ?_)
  clear hK K hHeld hS_
  have hHeld := hHeld2
  clear hHeld2
  refine norm_ (a' := ?_) ?_ ?_
  rotate_left
  · show Act.put _ (some 5) _ = _
    simp only [Act.put, List.setIfInBounds_toArray, List.set_cons_zero, List.set_cons_succ, i64_w, i32_w]
    rfl
  refine last_ (i := 16) (N := none) #[true, true, true, true, true, true, true, true, true, true, true, true, true, true, true, true, true] rfl rfl (by kernel_rfl) (by decide) (fun K hK => ?_)
  refine row_stepK (by rfl) 25 (.tmp 5) (.tmp 47) rfl g5_ #[.int .i64 x, .int .i64 y, .slice A_PS ps.length c_PS] rfl ?hy 25 _ BK5.out ?hi ?ho ?h1 rfl HB.out (show w.heap.size ≤ g5_ from (by have h_ := ZZ.out; omega)) ?_
  case hy => rfl
  case hi => kernel_rfl
  case ho => rfl
  case h1 => first | rfl | (simp [Value.oneCell']; done) | (go_simp; done)
  clear hHeld
  intro w7_ bo hk hb2
  clear BK5
  replace BK2 := Aside0.mk (blk_keptIn BK2.out hk (by have h_ := ZZ.out; omega))
  replace BK3 := Aside0.mk (blk_keptIn BK3.out hk (by have h_ := ZZ.out; omega))
  replace PS := Aside0.mk (AR.kept PS.out hk (by have h_ := ZZ.out; omega))
  replace HB := Aside0.mk hb2
  replace ZZ := Aside0.mk (And.intro ZZ.out (show w6_.heap.size ≤ w7_.heap.size from hk.1))
  have BK5 := Aside0.mk bo
  clear bo hk hb2
  refine hK.out _ _ ?_
  clear hK K
  refine done_ (by kernel_rfl) ?_
  have hz_BK3_0 : w7_.cell? ⟨g3_, 0, none⟩ = some (.int .i64 q0) := (blk_cell BK3.out 0).trans rfl
  have hz_BK3_1 : w7_.cell? ⟨g3_, 1, none⟩ = some (.int .i64 q1) := (blk_cell BK3.out 1).trans rfl
  have hz_BK3_2 : w7_.cell? ⟨g3_, 2, none⟩ = some (.slice (some ⟨gw_, 0, none⟩) W.length c_WS) := (blk_cell BK3.out 2).trans rfl
  have hz_BK5_0 : w7_.cell? ⟨g5_, 0, none⟩ = some (.int .i64 x) := (blk_cell BK5.out 0).trans rfl
  have hz_BK5_1 : w7_.cell? ⟨g5_, 1, none⟩ = some (.int .i64 y) := (blk_cell BK5.out 1).trans rfl
  have hz_BK5_2 : w7_.cell? ⟨g5_, 2, none⟩ = some (.slice A_PS ps.length c_PS) := (blk_cell BK5.out 2).trans rfl
  go_wp2_with (first | (go_at_call 59; refine hold_here ?_))
  refine hold_go ?_
  refine (spec_l3Right.calls _ x y A_PS c_PS ps b _ ?s1 ?s2 H_p.out).mono ?_
  case s1 => exact Kd.F_now (AR.foot PS.out)
  case s2 => exact HC_PS.out
  rintro e w8_ ⟨rfl, hb⟩
  replace BK2 := Aside0.mk (blk_below BK2.out hb)
  replace BK3 := Aside0.mk (blk_below BK3.out hb)
  replace PS := Aside0.mk (AR.below PS.out hb)
  replace BK5 := Aside0.mk (blk_below BK5.out hb)
  replace HB := Aside0.mk (below_step HB.out hb)
  clear hz_BK3_0 hz_BK3_1 hz_BK3_2 hz_BK5_0 hz_BK5_1 hz_BK5_2
  replace ZZ := Aside0.mk (And.intro ZZ.out (show w7_.heap.size ≤ w8_.heap.size from hb.size))
  clear hb
  have hz_BK3_0 : w8_.cell? ⟨g3_, 0, none⟩ = some (.int .i64 q0) := (blk_cell BK3.out 0).trans rfl
  have hz_BK3_1 : w8_.cell? ⟨g3_, 1, none⟩ = some (.int .i64 q1) := (blk_cell BK3.out 1).trans rfl
  have hz_BK3_2 : w8_.cell? ⟨g3_, 2, none⟩ = some (.slice (some ⟨gw_, 0, none⟩) W.length c_WS) := (blk_cell BK3.out 2).trans rfl
  have hz_BK5_0 : w8_.cell? ⟨g5_, 0, none⟩ = some (.int .i64 x) := (blk_cell BK5.out 0).trans rfl
  have hz_BK5_1 : w8_.cell? ⟨g5_, 1, none⟩ = some (.int .i64 y) := (blk_cell BK5.out 1).trans rfl
  have hz_BK5_2 : w8_.cell? ⟨g5_, 2, none⟩ = some (.slice A_PS ps.length c_PS) := (blk_cell BK5.out 2).trans rfl
  cases b
  · skip
    go_wp2_with (first | ((with_reducible refine gate_store (t := 53) (p := 2) (v := .tmp 51) rfl ?_); refine hold_here ?_))
    refine hold_go ?_
    refine row_store rfl 53 (.tmp 2) (.tmp 51) rfl g2_ #[.int .i64 5, .int .i64 0, .int .i64 0, .slice none 0 0] rfl ?hy 53 _ BK2.out ?hi ?ho ?h1 rfl HB.out (show w.heap.size ≤ g2_ from (by have h_ := ZZ.out; omega)) ?_
    case hy => rfl
    case hi => kernel_rfl
    case ho => rfl
    case h1 => first | rfl | (simp [Value.oneCell']; done) | (go_simp; done)
    intro w9_ bo hk hb2
    clear BK2
    replace BK3 := Aside0.mk (blk_keptIn BK3.out hk (by have h_ := ZZ.out; omega))
    replace PS := Aside0.mk (AR.kept PS.out hk (by have h_ := ZZ.out; omega))
    replace BK5 := Aside0.mk (blk_keptIn BK5.out hk (by have h_ := ZZ.out; omega))
    replace HB := Aside0.mk hb2
    clear hz_BK3_0 hz_BK3_1 hz_BK3_2 hz_BK5_0 hz_BK5_1 hz_BK5_2
    replace ZZ := Aside0.mk (And.intro ZZ.out (show w8_.heap.size ≤ w9_.heap.size from hk.1))
    have BK2 := Aside0.mk bo
    clear bo hk hb2
    have hz_BK3_0 : w9_.cell? ⟨g3_, 0, none⟩ = some (.int .i64 q0) := (blk_cell BK3.out 0).trans rfl
    have hz_BK3_1 : w9_.cell? ⟨g3_, 1, none⟩ = some (.int .i64 q1) := (blk_cell BK3.out 1).trans rfl
    have hz_BK3_2 : w9_.cell? ⟨g3_, 2, none⟩ = some (.slice (some ⟨gw_, 0, none⟩) W.length c_WS) := (blk_cell BK3.out 2).trans rfl
    have hz_BK5_0 : w9_.cell? ⟨g5_, 0, none⟩ = some (.int .i64 x) := (blk_cell BK5.out 0).trans rfl
    have hz_BK5_1 : w9_.cell? ⟨g5_, 1, none⟩ = some (.int .i64 y) := (blk_cell BK5.out 1).trans rfl
    have hz_BK5_2 : w9_.cell? ⟨g5_, 2, none⟩ = some (.slice A_PS ps.length c_PS) := (blk_cell BK5.out 2).trans rfl
    go_wp2
    refine bodyPost_ret (results_cell_row rfl _ _ g2_ 53 #[.int .i64 5, .int .i64 0, .int .i64 0, .slice none 0 0] (0, 0) _ rfl BK2.out Try.underlying53 rfl (by kernel_rfl)) rfl ?_
    exact ⟨none, 0, rfl, Nat.le_refl _, AR.nil _ _ _ _ _, HB.out⟩
  · skip
    go_wp2_with (first | ((with_reducible refine gate_store (t := 53) (p := 2) (v := .tmp 53) rfl ?_); refine hold_here ?_))
    refine hold_go ?_
    refine row_store rfl 53 (.tmp 2) (.tmp 53) rfl g2_ #[.int .i64 0, .int .i64 x, .int .i64 y, .slice A_PS ps.length c_PS] rfl ?hy 53 _ BK2.out ?hi ?ho ?h1 rfl HB.out (show w.heap.size ≤ g2_ from (by have h_ := ZZ.out; omega)) ?_
    case hy => rfl
    case hi => kernel_rfl
    case ho => rfl
    case h1 => first | rfl | (simp [Value.oneCell']; done) | (go_simp; done)
    intro w9_ bo hk hb2
    clear BK2
    replace BK3 := Aside0.mk (blk_keptIn BK3.out hk (by have h_ := ZZ.out; omega))
    replace PS := Aside0.mk (AR.kept PS.out hk (by have h_ := ZZ.out; omega))
    replace BK5 := Aside0.mk (blk_keptIn BK5.out hk (by have h_ := ZZ.out; omega))
    replace HB := Aside0.mk hb2
    clear hz_BK3_0 hz_BK3_1 hz_BK3_2 hz_BK5_0 hz_BK5_1 hz_BK5_2
    replace ZZ := Aside0.mk (And.intro ZZ.out (show w8_.heap.size ≤ w9_.heap.size from hk.1))
    have BK2 := Aside0.mk bo
    clear bo hk hb2
    have hz_BK3_0 : w9_.cell? ⟨g3_, 0, none⟩ = some (.int .i64 q0) := (blk_cell BK3.out 0).trans rfl
    have hz_BK3_1 : w9_.cell? ⟨g3_, 1, none⟩ = some (.int .i64 q1) := (blk_cell BK3.out 1).trans rfl
    have hz_BK3_2 : w9_.cell? ⟨g3_, 2, none⟩ = some (.slice (some ⟨gw_, 0, none⟩) W.length c_WS) := (blk_cell BK3.out 2).trans rfl
    have hz_BK5_0 : w9_.cell? ⟨g5_, 0, none⟩ = some (.int .i64 x) := (blk_cell BK5.out 0).trans rfl
    have hz_BK5_1 : w9_.cell? ⟨g5_, 1, none⟩ = some (.int .i64 y) := (blk_cell BK5.out 1).trans rfl
    have hz_BK5_2 : w9_.cell? ⟨g5_, 2, none⟩ = some (.slice A_PS ps.length c_PS) := (blk_cell BK5.out 2).trans rfl
    go_wp2
    refine bodyPost_ret (results_cell_row rfl _ _ g2_ 53 #[.int .i64 0, .int .i64 x, .int .i64 y, .slice A_PS ps.length c_PS] (0, 0) _ rfl BK2.out Try.underlying53 rfl (by kernel_rfl)) rfl ?_
    exact ⟨A_PS, c_PS, rfl, HC_PS.out, AR.grow PS.out (by have h_ := ZZ.out; omega) (by have h_ := ZZ.out; omega), HB.out⟩

end Go.Proofs.Ytchmaojmknfbpaa.S

/- Proofs out of bytes: what the program's UnpackProof and the reference's come to, way by way: the same. For all bytes that fit. -/
set_option linter.unusedVariables false
namespace Go.Proofs.Ytchmaojmknfbpaa.S
open Go Go.RowKit Go.Proofs.YtchmaojmknfbpaaW.PrintWords Go.Proofs.YtchmaojmknfbpaaW.PrintLast Go.Proofs.YtchmaojmknfbpaaW.PrintMore Go.Proofs.Ytchmaojmknfbpaa.Base

theorem one_of {l : List Int} (h : l.length = 1) (hb : Byt l) : ∃ x, l = [x] ∧ 0 ≤ x ∧ x ≤ 255 := by
  match l, h with
  | [x], _ => exact ⟨x, rfl, hb x List.mem_cons_self⟩
/-- What a result holds, in new memory. -/
def UpPost (q0 q1 q2 : Int) (ps : List (List Int)) (W : World) (e : Ending) (w' : World) : Prop :=
  ∃ A c, e = .returned (.agg #[.int .i64 q0, .int .i64 q1, .int .i64 q2, .slice A ps.length c]) ∧ ps.length ≤ c ∧ AR W.heap.size w' W.heap.size w'.heap.size A ps ∧ Below W.heap.size W w'
/-- What the bytes of a proof come to: its place, its count, its path; or the code 5. -/
def UpIs (x : List Int) (q0 q1 q2 : Int) (ps : List (List Int)) : Prop :=
  (q0 = 5 ∧ q1 = 0 ∧ q2 = 0 ∧ ps = []) ∨ (q0 = 0 ∧ (0 ≤ q1 ∧ q1 ≤ 255) ∧ (0 ≤ q2 ∧ q2 ≤ 255) ∧ x = packL ([q1] :: [q2] :: ps) ∧ ∃ L : List Bool, L.length ≤ 15 ∧ (Placed q2 q1 → Ev (fun k => impl_sides.f k q2 q1) L) ∧ (Placed q2 q1 → Ev (fun k => spec_l3Sides.f k q2 q1) (L.map not)) ∧ Right q2 q1 L ps)
theorem up_ex {x : List Int} (hx : Byt x) : ∃ q0 q1 q2 ps, UpIs x q0 q1 q2 ps ∧
    (∀ (B0 : Option Addr) (d0 : Nat) (W : World), Kd.C (Kd.int .u8) W B0 x.length x → x.length ≤ d0 → Calls Try.prog 28 #[.slice B0 x.length d0] W (UpPost q0 q1 q2 ps W)) ∧
    (∀ (B0 : Option Addr) (d0 : Nat) (W : World), Kd.C (Kd.int .u8) W B0 x.length x → x.length ≤ d0 → Calls Try.prog 29 #[.slice B0 x.length d0] W (UpPost q0 q1 q2 ps W)) := by
  obtain ⟨h1, h2, h3, h4, h5⟩ := unpackV_ok hx
  have hi := impl_UnpackWords_ev hx
  have hs := spec_UnpackWords_ev hx
  generalize unpackV x = r at *
  obtain ⟨c, at_, ws⟩ := r
  simp only at h1 h2 h3 h4 h5
  obtain ⟨ki, hi⟩ := hi.rounds
  obtain ⟨ks, hs⟩ := hs.rounds
  have bad : ∀ {P : Prop}, P → UpIs x 5 0 0 [] := fun _ => .inl ⟨rfl, rfl, rfl, rfl⟩
  by_cases hc : c = 0
  · subst hc
    by_cases hn : ws.length < 2
    · exact ⟨5, 0, 0, [], bad trivial, fun B d W hB hd => impl_UnpackProof_A ki B d x _ _ ws W hB hd hi hn, fun B d W hB hd => spec_UnpackProof_A ks B d x _ _ ws W hB hd hs rfl hn⟩
    have hn : 2 ≤ ws.length := by omega
    by_cases h0 : (ws[0]!).length = 1
    · have hm0 : ws[0]! ∈ ws := by rw [getElem!_pos ws 0 (by omega)]; exact List.getElem_mem _
      have hm1 : ws[1]! ∈ ws := by rw [getElem!_pos ws 1 (by omega)]; exact List.getElem_mem _
      obtain ⟨p, hp, hp0, hp1⟩ := one_of h0 (h1 _ hm0).1
      by_cases h1' : (ws[1]!).length = 1
      · obtain ⟨n, hnn, hn0, hn1⟩ := one_of h1' (h1 _ hm1).1
        obtain ⟨L, hL, si, ss⟩ := sides_any n p
        have hdl : (ws.drop 2).length ≤ 60 := by rw [List.length_drop]; omega
        obtain ⟨kp, hkp⟩ := (impl_isProof_ev n p L si (ws.drop 2)).rounds
        obtain ⟨kq, hkq⟩ := (spec_right_ev n p L ss (ws.drop 2) (by omega)).rounds
        by_cases hr : Right n p L (ws.drop 2)
        · rw [decide_eq_true hr] at hkp hkq
          refine ⟨0, p, n, ws.drop 2, .inr ⟨rfl, ⟨hp0, hp1⟩, ⟨hn0, hn1⟩, ?_, L, hL, si, ss, hr⟩, fun B d W hB hd => impl_UnpackProof_D ki B d x _ _ ws p n (ws.drop 2) _ kp W hB hd hi hn hp hnn ⟨hp0, hp1⟩ ⟨hn0, hn1⟩ rfl hkp, fun B d W hB hd => spec_UnpackProof_D ks B d x _ _ ws p n (ws.drop 2) _ kq W hB hd hs rfl hn hp hnn ⟨hp0, hp1⟩ ⟨hn0, hn1⟩ rfl hkq⟩
          rw [← h3 rfl]
          congr 1
          match ws, hn, hp, hnn with
          | a :: b :: t, _, hp, hnn =>
            have e1 : a = [p] := hp
            have e2 : b = [n] := hnn
            rw [e1, e2]
            rfl
        · rw [decide_eq_false hr] at hkp hkq
          exact ⟨5, 0, 0, [], bad trivial, fun B d W hB hd => impl_UnpackProof_D ki B d x _ _ ws p n (ws.drop 2) _ kp W hB hd hi hn hp hnn ⟨hp0, hp1⟩ ⟨hn0, hn1⟩ rfl hkp, fun B d W hB hd => spec_UnpackProof_D ks B d x _ _ ws p n (ws.drop 2) _ kq W hB hd hs rfl hn hp hnn ⟨hp0, hp1⟩ ⟨hn0, hn1⟩ rfl hkq⟩
      · exact ⟨5, 0, 0, [], bad trivial, fun B d W hB hd => impl_UnpackProof_C ki B d x _ _ ws p W hB hd hi hn hp h1', fun B d W hB hd => spec_UnpackProof_C ks B d x _ _ ws p W hB hd hs rfl hn hp h1'⟩
    · exact ⟨5, 0, 0, [], bad trivial, fun B d W hB hd => impl_UnpackProof_B ki B d x _ _ ws W hB hd hi hn h0, fun B d W hB hd => spec_UnpackProof_B ks B d x _ _ ws W hB hd hs rfl hn h0⟩
  · have he := (h4 hc).1
    subst he
    exact ⟨5, 0, 0, [], bad trivial, fun B d W hB hd => impl_UnpackProof_A ki B d x _ _ [] W hB hd hi (by simp), fun B d W hB hd => spec_UnpackProof_N ks B d x _ _ [] W hB hd hs hc⟩
end Go.Proofs.Ytchmaojmknfbpaa.S

/- The walk over the law FnProofTexts. No condition beyond those in the statements. -/
set_option linter.unusedVariables false
set_option linter.unusedSimpArgs false
namespace Go.Proofs.Ytchmaojmknfbpaa.S
open Go Go.RowKit Go.Proofs.YtchmaojmknfbpaaW.PrintWords Go.Proofs.YtchmaojmknfbpaaW.PrintLast Go.Proofs.YtchmaojmknfbpaaW.PrintMore Go.Proofs.Ytchmaojmknfbpaa.Base
attribute [local go_sem] max2_int min2_int max_two min_two max_three min_three max_four min_four

set_option maxHeartbeats 80000000 in
set_option maxRecDepth 100000 in
theorem law_FnProofTexts_big (A0 : Option Addr) (c0 : Nat) (l0 : List Int)  (w : World) (hr0 : Kd.C (Kd.int .u8) w A0 l0.length l0) (hc0 : l0.length ≤ c0)
    (h_b : laws_lwBig.f l0 = some true) :
    Calls Try.prog 6 #[.slice A0 l0.length c0] w fun e w' => e = .returned (.bool true) ∧ Below w.heap.size w w' := by
  have hu0_ := Try.underlying53
  have hu1_ := Try.underlying42
  have hu2_ := Try.underlying25
  have HR0 := Aside0.mk hr0
  have HC0 := Aside0.mk hc0
  have H_b := Aside0.mk h_b
  have HB := Aside0.mk (Below.refl w.heap.size w)
  have ZZ := Aside0.mk (Nat.le_refl w.heap.size)
  clear hr0 hc0 h_b
  go_enter Try.func6, Try.ntmps6
  go_wp2_with (first | (go_at_call 26; refine hold_here ?_))
  refine hold_go ?_
  refine (laws_lwBig.calls A0 c0 l0 true _ ?s1 ?s2 H_b.out).mono ?_
  case s1 => exact Kd.C_below HR0.out HB.out
  case s2 => exact HC0.out
  rintro e w1_ ⟨rfl, hd⟩
  have hb := hd.below
  clear hd
  replace HB := Aside0.mk (below_step HB.out hb)
  replace ZZ := Aside0.mk (And.intro ZZ.out (show w.heap.size ≤ w1_.heap.size from hb.size))
  clear hb
  go_wp2
  go_ret
  exact ⟨rfl, HB.out⟩
set_option maxHeartbeats 80000000 in
set_option maxRecDepth 100000 in
theorem law_FnProofTexts_bad (A0 : Option Addr) (c0 : Nat) (l0 : List Int) (x : List Int) (q0 q1 q2 : Int) (ps : List (List Int)) (kd : Nat) (w : World) (hr0 : Kd.C (Kd.int .u8) w A0 l0.length l0) (hc0 : l0.length ≤ c0)
    (h_b : laws_lwBig.f l0 = some false) (h_d : spec_DrawUnpackProof.f kd l0 = some x) (h_i : ∀ (B : Option Addr) (d : Nat) (W : World), Kd.C (Kd.int .u8) W B x.length x → x.length ≤ d → Calls Try.prog 28 #[.slice B x.length d] W (fun e w' => ∃ A c, e = .returned (.agg #[.int .i64 q0, .int .i64 q1, .int .i64 q2, .slice A ps.length c]) ∧ ps.length ≤ c ∧ AR W.heap.size w' W.heap.size w'.heap.size A ps ∧ Below W.heap.size W w')) (h_s : ∀ (B : Option Addr) (d : Nat) (W : World), Kd.C (Kd.int .u8) W B x.length x → x.length ≤ d → Calls Try.prog 29 #[.slice B x.length d] W (fun e w' => ∃ A c, e = .returned (.agg #[.int .i64 q0, .int .i64 q1, .int .i64 q2, .slice A ps.length c]) ∧ ps.length ≤ c ∧ AR W.heap.size w' W.heap.size w'.heap.size A ps ∧ Below W.heap.size W w')) (h_q : q0 ≠ 0) :
    Calls Try.prog 6 #[.slice A0 l0.length c0] w fun e w' => e = .returned (.bool true) ∧ Below w.heap.size w w' := by
  have cq0_ : (q0 == 0) = false := beq_eq_false_iff_ne.2 h_q
  have cq1_ : (q0 != 0) = true := bne_iff_ne.2 h_q
  have hfd_0 := fun (a0 a1 a2 a3 : Value) (w : World) => (show (Instr.field 53 (.agg #[a0, a1, a2, a3]) 0).run Try.prog w = .ok a0 w from by kernel_rfl)
  have hu0_ := Try.underlying53
  have hu1_ := Try.underlying42
  have hu2_ := Try.underlying25
  have HR0 := Aside0.mk hr0
  have HC0 := Aside0.mk hc0
  have H_b := Aside0.mk h_b
  have H_d := Aside0.mk h_d
  have H_i := Aside0.mk h_i
  have H_s := Aside0.mk h_s
  have H_q := Aside0.mk h_q
  have HB := Aside0.mk (Below.refl w.heap.size w)
  have ZZ := Aside0.mk (Nat.le_refl w.heap.size)
  clear hr0 hc0 h_b h_d h_i h_s h_q
  go_enter Try.func6, Try.ntmps6
  go_wp2_with (first | (go_at_call 26; refine hold_here ?_))
  refine hold_go ?_
  refine (laws_lwBig.calls A0 c0 l0 false _ ?s1 ?s2 H_b.out).mono ?_
  case s1 => exact Kd.C_below HR0.out HB.out
  case s2 => exact HC0.out
  rintro e w1_ ⟨rfl, hd⟩
  have hb := hd.below
  clear hd
  replace HB := Aside0.mk (below_step HB.out hb)
  replace ZZ := Aside0.mk (And.intro ZZ.out (show w.heap.size ≤ w1_.heap.size from hb.size))
  clear hb
  go_wp2_with (first | (go_at_call 27; refine hold_here ?_))
  refine hold_go ?_
  refine (spec_DrawUnpackProof.calls _ A0 c0 l0 x _ ?s1 ?s2 H_d.out).mono ?_
  case s1 => exact Kd.C_below HR0.out HB.out
  case s2 => exact HC0.out
  rintro e w2_ ⟨v, rfl, ho, hb⟩
  replace HB := Aside0.mk (below_step HB.out hb)
  replace ZZ := Aside0.mk (And.intro ZZ.out (show w1_.heap.size ≤ w2_.heap.size from hb.size))
  obtain ⟨A_DA, c_DA, ev_, hA_DA⟩ := B_of_R (base := w.heap.size) ho (show w.heap.size ≤ w1_.heap.size from (by have h_ := ZZ.out; omega))
  subst ev_
  have DA := Aside0.mk (show Kd.R (Kd.int .u8) 5 w2_ w.heap.size (In w1_.heap.size w2_.heap.size) (.slice A_DA x.length c_DA) x from hA_DA)
  clear hA_DA ho
  clear hb
  go_wp2_with (first | (go_at_call 28; refine hold_here ?_))
  refine hold_go ?_
  refine (H_i.out A_DA c_DA _ ?s1 ?s2).mono ?_
  case s1 => exact (Kd.R_reads' DA.out).2.2
  case s2 => exact (Kd.R_reads' DA.out).2.1
  rintro e w3_ ⟨A_US, c_US, rfl, hc_, ha, hb⟩
  replace DA := Aside0.mk (Kd.R_below DA.out hb)
  replace HB := Aside0.mk (below_step HB.out hb)
  replace ZZ := Aside0.mk (And.intro ZZ.out (show w2_.heap.size ≤ w3_.heap.size from hb.size))
  have HC_US := Aside0.mk hc_
  have US := Aside0.mk (show AR w.heap.size w3_ w2_.heap.size w3_.heap.size A_US ps from AR.lower ha (by have h_ := ZZ.out; omega))
  clear hc_ ha
  clear hb
  go_wp2_with (first | ((with_reducible refine gate_dst (N := 4) rfl ?_); refine hold_here ?_))
  refine hold_go ?_
  refine box_event (N := 4) (cs := #[.int .i64 0, .int .i64 0, .int .i64 0, .slice none 0 0]) (t := 53) ?hgb rfl ?hrb ?_
  case hgb => rfl
  case hrb => first | (go_simp; done) | (go_simp; rfl)
  intro g4_ hg w4_ hbox hb
  replace DA := Aside0.mk (Kd.R_below DA.out hb)
  replace US := Aside0.mk (AR.below US.out hb)
  replace HB := Aside0.mk (below_step HB.out hb)
  replace ZZ := Aside0.mk (And.intro ZZ.out (show w3_.heap.size ≤ w4_.heap.size from hb.size))
  have BK4 := Aside0.mk hbox
  replace ZZ := Aside0.mk (And.intro ZZ.out (And.intro (show g4_ = w3_.heap.size from hg) (show g4_ < w4_.heap.size from blk_lt hbox)))
  clear hb hbox hg
  have hz_BK4_0 : w4_.cell? ⟨g4_, 0, none⟩ = some (.int .i64 0) := (blk_cell BK4.out 0).trans rfl
  have hz_BK4_1 : w4_.cell? ⟨g4_, 1, none⟩ = some (.int .i64 0) := (blk_cell BK4.out 1).trans rfl
  have hz_BK4_2 : w4_.cell? ⟨g4_, 2, none⟩ = some (.int .i64 0) := (blk_cell BK4.out 2).trans rfl
  have hz_BK4_3 : w4_.cell? ⟨g4_, 3, none⟩ = some (.slice none 0 0) := (blk_cell BK4.out 3).trans rfl
  go_wp2_with (first | ((with_reducible refine gate_store (t := 53) (p := 4) (v := .tmp 11) rfl ?_); refine hold_here ?_))
  refine hold_go ?_
  refine row_store rfl 53 (.tmp 4) (.tmp 11) rfl g4_ #[.int .i64 q0, .int .i64 q1, .int .i64 q2, .slice A_US ps.length c_US] rfl ?hy 53 _ BK4.out ?hi ?ho ?h1 rfl HB.out (show w.heap.size ≤ g4_ from (by have h_ := ZZ.out; omega)) ?_
  case hy => rfl
  case hi => kernel_rfl
  case ho => rfl
  case h1 => first | rfl | (simp [Value.oneCell']; done) | (go_simp; done)
  intro w5_ bo hk hb2
  clear BK4
  replace DA := Aside0.mk (B_kept DA.out hk (by have h_ := ZZ.out; omega))
  replace US := Aside0.mk (AR.kept US.out hk (by have h_ := ZZ.out; omega))
  replace HB := Aside0.mk hb2
  clear hz_BK4_0 hz_BK4_1 hz_BK4_2 hz_BK4_3
  replace ZZ := Aside0.mk (And.intro ZZ.out (show w4_.heap.size ≤ w5_.heap.size from hk.1))
  have BK4 := Aside0.mk bo
  clear bo hk hb2
  have hz_BK4_0 : w5_.cell? ⟨g4_, 0, none⟩ = some (.int .i64 q0) := (blk_cell BK4.out 0).trans rfl
  have hz_BK4_1 : w5_.cell? ⟨g4_, 1, none⟩ = some (.int .i64 q1) := (blk_cell BK4.out 1).trans rfl
  have hz_BK4_2 : w5_.cell? ⟨g4_, 2, none⟩ = some (.int .i64 q2) := (blk_cell BK4.out 2).trans rfl
  have hz_BK4_3 : w5_.cell? ⟨g4_, 3, none⟩ = some (.slice A_US ps.length c_US) := (blk_cell BK4.out 3).trans rfl
  try go_wp2_with fail
  replace DA := Aside0.mk (Kd.R_drew DA.out)
  replace US := Aside0.mk (AR.drew US.out)
  replace BK4 := Aside0.mk (blk_drew BK4.out)
  replace HB := Aside0.mk (below_drew1 HB.out)
  replace ZZ := Aside0.mk (And.intro ZZ.out (show w5_.heap.size ≤ w5_.drew.heap.size from Nat.le_refl _))
  clear hz_BK4_0 hz_BK4_1 hz_BK4_2 hz_BK4_3
  refine start_ (n := 7) (S := fun w' => w'.cell? (⟨g4_, 0, none⟩) = some (.int .i64 q0)) (ds := []) #[false, false, false, false, false, false, false] (by kernel_rfl) rfl rfl (show w5_.drew.cell? (⟨g4_, 0, none⟩) = some (.int .i64 q0) from (blk_cell BK4.out 0).trans rfl) (fun hHeld => ?_)
  generalize w5_.drew = w6_ at DA US BK4 HB ZZ hHeld ⊢
  refine pure_ (i := 0) (N := some 15) (v := ?_) (a' := ?_) #[true, false, false, false, false, false, false] rfl rfl (by kernel_rfl) (fun _ _ _ h => h) (Or.inl ⟨by rfl, ?_⟩) ?_ ?_
  rotate_left
  · intro w'
    go_simp
    with_reducible rfl
  rotate_left
  · simp only [Act.put, List.setIfInBounds_toArray, List.set_cons_zero, List.set_cons_succ, i64_w, i32_w]
    rfl
  refine pure_ (i := 3) (N := some 18) (v := ?_) (a' := ?_) #[true, false, false, true, false, false, false] rfl rfl (by kernel_rfl) (fun _ _ _ h => h) (Or.inl ⟨by rfl, ?_⟩) ?_ ?_
  rotate_left
  · intro w'
    go_simp
    with_reducible rfl
  rotate_left
  · simp only [Act.put, List.setIfInBounds_toArray, List.set_cons_zero, List.set_cons_succ, i64_w, i32_w]
    rfl
  refine take_ (i := 4) (N := some 19) (v := ?_) (a' := ?_) #[true, false, false, true, true, false, false] rfl rfl (by kernel_rfl) (fun _ _ _ h => h) (Or.inl ⟨by rfl, ?_⟩) hHeld ?_ ?_
  rotate_left
  · rintro w' s0
    go_simp
    with_reducible rfl
  rotate_left
  · simp only [Act.put, List.setIfInBounds_toArray, List.set_cons_zero, List.set_cons_succ, i64_w, i32_w]
    rfl
  refine one_ (i := 1) (N := some 16) #[true, true, false, true, true, false, false] rfl rfl (by kernel_rfl) (by decide) (fun K hK => ?_)
  refine goes_ Try.func29 (by kernel_rfl) rfl #[.slice A_DA x.length c_DA] (by rfl) rfl rfl (by (try simp only [List.map_toArray, List.map_cons, List.map_nil]); first | done | rfl) ?_
  refine (H_s.out A_DA c_DA _ ?s1 ?s2).mono ?_
  case s1 => exact (Kd.R_reads' DA.out).2.2
  case s2 => exact (Kd.R_reads' DA.out).2.1
  rintro e w7_ ⟨A_VS, c_VS, rfl, hcv_, hav_, hb⟩
  refine ⟨_, rfl, ?_⟩
  have hS_ : (fun w' : World => w'.cell? (⟨g4_, 0, none⟩) = some (.int .i64 q0)) w7_ := by
    have s0 := hHeld
    exact (hb.cell (World.block_lt_of_cell? _ _ s0)).trans s0
  replace DA := Aside0.mk (Kd.R_below DA.out hb)
  replace US := Aside0.mk (AR.below US.out hb)
  replace BK4 := Aside0.mk (blk_below BK4.out hb)
  replace HB := Aside0.mk (below_step HB.out hb)
  replace ZZ := Aside0.mk (And.intro ZZ.out (show w6_.heap.size ≤ w7_.heap.size from hb.size))
  refine hK.out _ _ hS_ (fun hHeld2 => ?_)
  clear hK K hHeld hS_ hb
  have hHeld := hHeld2
  clear hHeld2
  refine norm_ (a' := ?_) ?_ ?_
  rotate_left
  · show Act.put _ (some 16) _ = _
    simp only [Act.put, List.setIfInBounds_toArray, List.set_cons_zero, List.set_cons_succ, i64_w, i32_w]
    rfl
  refine pure_ (i := 2) (N := some 17) (v := ?_) (a' := ?_) #[true, true, true, true, true, false, false] rfl rfl (by kernel_rfl) (fun _ _ _ h => h) (Or.inl ⟨by rfl, ?_⟩) ?_ ?_
  rotate_left
  · intro w'
    go_simp
    with_reducible rfl
  rotate_left
  · simp only [Act.put, List.setIfInBounds_toArray, List.set_cons_zero, List.set_cons_succ, i64_w, i32_w]
    rfl
  refine pure_ (i := 5) (N := some 20) (v := ?_) (a' := ?_) #[true, true, true, true, true, true, false] rfl rfl (by kernel_rfl) (fun _ _ _ h => h) (Or.inl ⟨by rfl, ?_⟩) ?_ ?_
  rotate_left
  · intro w'
    go_simp
    with_reducible rfl
  rotate_left
  · simp only [Act.put, List.setIfInBounds_toArray, List.set_cons_zero, List.set_cons_succ, i64_w, i32_w]
    rfl
  refine pure_ (i := 6) (N := some 2) (v := ?_) (a' := ?_) #[true, true, true, true, true, true, true] rfl rfl (by kernel_rfl) (fun _ _ _ h => h) (Or.inl ⟨by rfl, ?_⟩) ?_ ?_
  rotate_left
  · intro w'
    go_simp
    with_reducible rfl
  rotate_left
  · simp only [Act.put, List.setIfInBounds_toArray, List.set_cons_zero, List.set_cons_succ, i64_w, i32_w]
    rfl
  refine done_ (by kernel_rfl) ?_
  go_wp2
  go_ret
  exact ⟨by simp, HB.out⟩
set_option maxHeartbeats 80000000 in
set_option maxRecDepth 100000 in
theorem law_FnProofTexts_ok (A0 : Option Addr) (c0 : Nat) (l0 : List Int) (x : List Int) (q0 q1 q2 : Int) (ps : List (List Int)) (kd kk : Nat) (w : World) (hr0 : Kd.C (Kd.int .u8) w A0 l0.length l0) (hc0 : l0.length ≤ c0)
    (h_b : laws_lwBig.f l0 = some false) (h_d : spec_DrawUnpackProof.f kd l0 = some x) (h_i : ∀ (B : Option Addr) (d : Nat) (W : World), Kd.C (Kd.int .u8) W B x.length x → x.length ≤ d → Calls Try.prog 28 #[.slice B x.length d] W (fun e w' => ∃ A c, e = .returned (.agg #[.int .i64 q0, .int .i64 q1, .int .i64 q2, .slice A ps.length c]) ∧ ps.length ≤ c ∧ AR W.heap.size w' W.heap.size w'.heap.size A ps ∧ Below W.heap.size W w')) (h_q : q0 = 0) (h_k : impl_PackProof.f kk q1 q2 ps = some (0, x)) (h_e : laws_lwBytes.f x x = some true) (h_n : 0 < x.length) :
    Calls Try.prog 6 #[.slice A0 l0.length c0] w fun e w' => e = .returned (.bool true) ∧ Below w.heap.size w w' := by
  have cq0_ : (q0 == 0) = true := beq_iff_eq.2 h_q
  have cq1_ : (q0 != 0) = false := bne_eq_false_iff_eq.2 h_q
  have cn0_ : decide ((x.length : Int) > 0) = true := decide_eq_true (by omega)
  have cn1_ : (0 < x.length) = True := eq_true h_n
  have cn2_ : ((0 : Int) < (x.length : Int)) = True := eq_true (by omega)
  have hu0_ := Try.underlying53
  have hu1_ := Try.underlying42
  have hu2_ := Try.underlying25
  have HR0 := Aside0.mk hr0
  have HC0 := Aside0.mk hc0
  have H_b := Aside0.mk h_b
  have H_d := Aside0.mk h_d
  have H_i := Aside0.mk h_i
  have H_q := Aside0.mk h_q
  have H_k := Aside0.mk h_k
  have H_e := Aside0.mk h_e
  have H_n := Aside0.mk h_n
  have HB := Aside0.mk (Below.refl w.heap.size w)
  have ZZ := Aside0.mk (Nat.le_refl w.heap.size)
  clear hr0 hc0 h_b h_d h_i h_q h_k h_e h_n
  go_enter Try.func6, Try.ntmps6
  go_wp2_with (first | (go_at_call 26; refine hold_here ?_))
  refine hold_go ?_
  refine (laws_lwBig.calls A0 c0 l0 false _ ?s1 ?s2 H_b.out).mono ?_
  case s1 => exact Kd.C_below HR0.out HB.out
  case s2 => exact HC0.out
  rintro e w1_ ⟨rfl, hd⟩
  have hb := hd.below
  clear hd
  replace HB := Aside0.mk (below_step HB.out hb)
  replace ZZ := Aside0.mk (And.intro ZZ.out (show w.heap.size ≤ w1_.heap.size from hb.size))
  clear hb
  go_wp2_with (first | (go_at_call 27; refine hold_here ?_))
  refine hold_go ?_
  refine (spec_DrawUnpackProof.calls _ A0 c0 l0 x _ ?s1 ?s2 H_d.out).mono ?_
  case s1 => exact Kd.C_below HR0.out HB.out
  case s2 => exact HC0.out
  rintro e w2_ ⟨v, rfl, ho, hb⟩
  replace HB := Aside0.mk (below_step HB.out hb)
  replace ZZ := Aside0.mk (And.intro ZZ.out (show w1_.heap.size ≤ w2_.heap.size from hb.size))
  obtain ⟨A_DA, c_DA, ev_, hA_DA⟩ := B_of_R (base := w.heap.size) ho (show w.heap.size ≤ w1_.heap.size from (by have h_ := ZZ.out; omega))
  subst ev_
  have DA := Aside0.mk (show Kd.R (Kd.int .u8) 5 w2_ w.heap.size (In w1_.heap.size w2_.heap.size) (.slice A_DA x.length c_DA) x from hA_DA)
  clear hA_DA ho
  clear hb
  go_wp2_with (first | (go_at_call 28; refine hold_here ?_))
  refine hold_go ?_
  refine (H_i.out A_DA c_DA _ ?s1 ?s2).mono ?_
  case s1 => exact (Kd.R_reads' DA.out).2.2
  case s2 => exact (Kd.R_reads' DA.out).2.1
  rintro e w3_ ⟨A_US, c_US, rfl, hc_, ha, hb⟩
  replace DA := Aside0.mk (Kd.R_below DA.out hb)
  replace HB := Aside0.mk (below_step HB.out hb)
  replace ZZ := Aside0.mk (And.intro ZZ.out (show w2_.heap.size ≤ w3_.heap.size from hb.size))
  have HC_US := Aside0.mk hc_
  have US := Aside0.mk (show AR w.heap.size w3_ w2_.heap.size w3_.heap.size A_US ps from AR.lower ha (by have h_ := ZZ.out; omega))
  clear hc_ ha
  clear hb
  go_wp2_with (first | ((with_reducible refine gate_dst (N := 4) rfl ?_); refine hold_here ?_))
  refine hold_go ?_
  refine box_event (N := 4) (cs := #[.int .i64 0, .int .i64 0, .int .i64 0, .slice none 0 0]) (t := 53) ?hgb rfl ?hrb ?_
  case hgb => rfl
  case hrb => first | (go_simp; done) | (go_simp; rfl)
  intro g4_ hg w4_ hbox hb
  replace DA := Aside0.mk (Kd.R_below DA.out hb)
  replace US := Aside0.mk (AR.below US.out hb)
  replace HB := Aside0.mk (below_step HB.out hb)
  replace ZZ := Aside0.mk (And.intro ZZ.out (show w3_.heap.size ≤ w4_.heap.size from hb.size))
  have BK4 := Aside0.mk hbox
  replace ZZ := Aside0.mk (And.intro ZZ.out (And.intro (show g4_ = w3_.heap.size from hg) (show g4_ < w4_.heap.size from blk_lt hbox)))
  clear hb hbox hg
  have hz_BK4_0 : w4_.cell? ⟨g4_, 0, none⟩ = some (.int .i64 0) := (blk_cell BK4.out 0).trans rfl
  have hz_BK4_1 : w4_.cell? ⟨g4_, 1, none⟩ = some (.int .i64 0) := (blk_cell BK4.out 1).trans rfl
  have hz_BK4_2 : w4_.cell? ⟨g4_, 2, none⟩ = some (.int .i64 0) := (blk_cell BK4.out 2).trans rfl
  have hz_BK4_3 : w4_.cell? ⟨g4_, 3, none⟩ = some (.slice none 0 0) := (blk_cell BK4.out 3).trans rfl
  go_wp2_with (first | ((with_reducible refine gate_store (t := 53) (p := 4) (v := .tmp 11) rfl ?_); refine hold_here ?_))
  refine hold_go ?_
  refine row_store rfl 53 (.tmp 4) (.tmp 11) rfl g4_ #[.int .i64 q0, .int .i64 q1, .int .i64 q2, .slice A_US ps.length c_US] rfl ?hy 53 _ BK4.out ?hi ?ho ?h1 rfl HB.out (show w.heap.size ≤ g4_ from (by have h_ := ZZ.out; omega)) ?_
  case hy => rfl
  case hi => kernel_rfl
  case ho => rfl
  case h1 => first | rfl | (simp [Value.oneCell']; done) | (go_simp; done)
  intro w5_ bo hk hb2
  clear BK4
  replace DA := Aside0.mk (B_kept DA.out hk (by have h_ := ZZ.out; omega))
  replace US := Aside0.mk (AR.kept US.out hk (by have h_ := ZZ.out; omega))
  replace HB := Aside0.mk hb2
  clear hz_BK4_0 hz_BK4_1 hz_BK4_2 hz_BK4_3
  replace ZZ := Aside0.mk (And.intro ZZ.out (show w4_.heap.size ≤ w5_.heap.size from hk.1))
  have BK4 := Aside0.mk bo
  clear bo hk hb2
  have hz_BK4_0 : w5_.cell? ⟨g4_, 0, none⟩ = some (.int .i64 q0) := (blk_cell BK4.out 0).trans rfl
  have hz_BK4_1 : w5_.cell? ⟨g4_, 1, none⟩ = some (.int .i64 q1) := (blk_cell BK4.out 1).trans rfl
  have hz_BK4_2 : w5_.cell? ⟨g4_, 2, none⟩ = some (.int .i64 q2) := (blk_cell BK4.out 2).trans rfl
  have hz_BK4_3 : w5_.cell? ⟨g4_, 3, none⟩ = some (.slice A_US ps.length c_US) := (blk_cell BK4.out 3).trans rfl
  go_wp2_with (first | (go_at_call 30; refine hold_here ?_))
  refine hold_go ?_
  refine (impl_PackProof.calls _ q1 q2 A_US c_US ps 0 x _ ?s1 ?s2 H_k.out).mono ?_
  case s1 => exact Kd.F_now (AR.foot US.out)
  case s2 => exact HC_US.out
  rintro e w6_ ⟨v, rfl, ho, hb⟩
  replace DA := Aside0.mk (Kd.R_below DA.out hb)
  replace US := Aside0.mk (AR.below US.out hb)
  replace BK4 := Aside0.mk (blk_below BK4.out hb)
  replace HB := Aside0.mk (below_step HB.out hb)
  clear hz_BK4_0 hz_BK4_1 hz_BK4_2 hz_BK4_3
  replace ZZ := Aside0.mk (And.intro ZZ.out (show w5_.heap.size ≤ w6_.heap.size from hb.size))
  obtain ⟨A_PB, c_PB, ev_, hA_PB⟩ := B_of_R (base := w.heap.size) ho (show w.heap.size ≤ w5_.heap.size from (by have h_ := ZZ.out; omega))
  subst ev_
  have PB := Aside0.mk (show Kd.R (Kd.int .u8) 5 w6_ w.heap.size (In w5_.heap.size w6_.heap.size) (.slice A_PB x.length c_PB) x from hA_PB)
  clear hA_PB ho
  clear hb
  have hz_BK4_0 : w6_.cell? ⟨g4_, 0, none⟩ = some (.int .i64 q0) := (blk_cell BK4.out 0).trans rfl
  have hz_BK4_1 : w6_.cell? ⟨g4_, 1, none⟩ = some (.int .i64 q1) := (blk_cell BK4.out 1).trans rfl
  have hz_BK4_2 : w6_.cell? ⟨g4_, 2, none⟩ = some (.int .i64 q2) := (blk_cell BK4.out 2).trans rfl
  have hz_BK4_3 : w6_.cell? ⟨g4_, 3, none⟩ = some (.slice A_US ps.length c_US) := (blk_cell BK4.out 3).trans rfl
  go_wp2_with (first | ((with_reducible refine gate_dst (N := 5) rfl ?_); refine hold_here ?_))
  refine hold_go ?_
  refine box_event (N := 5) (cs := #[.int .i64 0, .slice none 0 0]) (t := 42) ?hgb rfl ?hrb ?_
  case hgb => rfl
  case hrb => first | (go_simp; done) | (go_simp; rfl)
  intro g5_ hg w7_ hbox hb
  replace DA := Aside0.mk (Kd.R_below DA.out hb)
  replace US := Aside0.mk (AR.below US.out hb)
  replace BK4 := Aside0.mk (blk_below BK4.out hb)
  replace PB := Aside0.mk (Kd.R_below PB.out hb)
  replace HB := Aside0.mk (below_step HB.out hb)
  clear hz_BK4_0 hz_BK4_1 hz_BK4_2 hz_BK4_3
  replace ZZ := Aside0.mk (And.intro ZZ.out (show w6_.heap.size ≤ w7_.heap.size from hb.size))
  have BK5 := Aside0.mk hbox
  replace ZZ := Aside0.mk (And.intro ZZ.out (And.intro (show g5_ = w6_.heap.size from hg) (show g5_ < w7_.heap.size from blk_lt hbox)))
  clear hb hbox hg
  have hz_BK4_0 : w7_.cell? ⟨g4_, 0, none⟩ = some (.int .i64 q0) := (blk_cell BK4.out 0).trans rfl
  have hz_BK4_1 : w7_.cell? ⟨g4_, 1, none⟩ = some (.int .i64 q1) := (blk_cell BK4.out 1).trans rfl
  have hz_BK4_2 : w7_.cell? ⟨g4_, 2, none⟩ = some (.int .i64 q2) := (blk_cell BK4.out 2).trans rfl
  have hz_BK4_3 : w7_.cell? ⟨g4_, 3, none⟩ = some (.slice A_US ps.length c_US) := (blk_cell BK4.out 3).trans rfl
  have hz_BK5_0 : w7_.cell? ⟨g5_, 0, none⟩ = some (.int .i64 0) := (blk_cell BK5.out 0).trans rfl
  have hz_BK5_1 : w7_.cell? ⟨g5_, 1, none⟩ = some (.slice none 0 0) := (blk_cell BK5.out 1).trans rfl
  go_wp2_with (first | ((with_reducible refine gate_store (t := 42) (p := 5) (v := .tmp 23) rfl ?_); refine hold_here ?_))
  refine hold_go ?_
  refine row_store rfl 42 (.tmp 5) (.tmp 23) rfl g5_ #[.int .i64 0, .slice A_PB x.length c_PB] rfl ?hy 42 _ BK5.out ?hi ?ho ?h1 rfl HB.out (show w.heap.size ≤ g5_ from (by have h_ := ZZ.out; omega)) ?_
  case hy => rfl
  case hi => kernel_rfl
  case ho => rfl
  case h1 => first | rfl | (simp [Value.oneCell']; done) | (go_simp; done)
  intro w8_ bo hk hb2
  clear BK5
  replace DA := Aside0.mk (B_kept DA.out hk (by have h_ := ZZ.out; omega))
  replace US := Aside0.mk (AR.kept US.out hk (by have h_ := ZZ.out; omega))
  replace BK4 := Aside0.mk (blk_keptIn BK4.out hk (by have h_ := ZZ.out; omega))
  replace PB := Aside0.mk (B_kept PB.out hk (by have h_ := ZZ.out; omega))
  replace HB := Aside0.mk hb2
  clear hz_BK4_0 hz_BK4_1 hz_BK4_2 hz_BK4_3 hz_BK5_0 hz_BK5_1
  replace ZZ := Aside0.mk (And.intro ZZ.out (show w7_.heap.size ≤ w8_.heap.size from hk.1))
  have BK5 := Aside0.mk bo
  clear bo hk hb2
  have hz_BK4_0 : w8_.cell? ⟨g4_, 0, none⟩ = some (.int .i64 q0) := (blk_cell BK4.out 0).trans rfl
  have hz_BK4_1 : w8_.cell? ⟨g4_, 1, none⟩ = some (.int .i64 q1) := (blk_cell BK4.out 1).trans rfl
  have hz_BK4_2 : w8_.cell? ⟨g4_, 2, none⟩ = some (.int .i64 q2) := (blk_cell BK4.out 2).trans rfl
  have hz_BK4_3 : w8_.cell? ⟨g4_, 3, none⟩ = some (.slice A_US ps.length c_US) := (blk_cell BK4.out 3).trans rfl
  have hz_BK5_0 : w8_.cell? ⟨g5_, 0, none⟩ = some (.int .i64 0) := (blk_cell BK5.out 0).trans rfl
  have hz_BK5_1 : w8_.cell? ⟨g5_, 1, none⟩ = some (.slice A_PB x.length c_PB) := (blk_cell BK5.out 1).trans rfl
  go_wp2_with (first | (go_at_call 31; refine hold_here ?_))
  refine hold_go ?_
  refine (laws_lwBytes.calls A_PB c_PB x A_DA c_DA x true _ ?s1 ?s2 ?s3 ?s4 H_e.out).mono ?_
  case s1 => exact (Kd.R_reads' PB.out).2.2
  case s2 => exact (Kd.R_reads' PB.out).2.1
  case s3 => exact (Kd.R_reads' DA.out).2.2
  case s4 => exact (Kd.R_reads' DA.out).2.1
  rintro e w9_ ⟨rfl, hd⟩
  have hb := hd.below
  clear hd
  replace DA := Aside0.mk (Kd.R_below DA.out hb)
  replace US := Aside0.mk (AR.below US.out hb)
  replace BK4 := Aside0.mk (blk_below BK4.out hb)
  replace PB := Aside0.mk (Kd.R_below PB.out hb)
  replace BK5 := Aside0.mk (blk_below BK5.out hb)
  replace HB := Aside0.mk (below_step HB.out hb)
  clear hz_BK4_0 hz_BK4_1 hz_BK4_2 hz_BK4_3 hz_BK5_0 hz_BK5_1
  replace ZZ := Aside0.mk (And.intro ZZ.out (show w8_.heap.size ≤ w9_.heap.size from hb.size))
  clear hb
  have hz_BK4_0 : w9_.cell? ⟨g4_, 0, none⟩ = some (.int .i64 q0) := (blk_cell BK4.out 0).trans rfl
  have hz_BK4_1 : w9_.cell? ⟨g4_, 1, none⟩ = some (.int .i64 q1) := (blk_cell BK4.out 1).trans rfl
  have hz_BK4_2 : w9_.cell? ⟨g4_, 2, none⟩ = some (.int .i64 q2) := (blk_cell BK4.out 2).trans rfl
  have hz_BK4_3 : w9_.cell? ⟨g4_, 3, none⟩ = some (.slice A_US ps.length c_US) := (blk_cell BK4.out 3).trans rfl
  have hz_BK5_0 : w9_.cell? ⟨g5_, 0, none⟩ = some (.int .i64 0) := (blk_cell BK5.out 0).trans rfl
  have hz_BK5_1 : w9_.cell? ⟨g5_, 1, none⟩ = some (.slice A_PB x.length c_PB) := (blk_cell BK5.out 1).trans rfl
  go_wp2
  go_ret
  exact ⟨by simp, HB.out⟩

end Go.Proofs.Ytchmaojmknfbpaa.S

/- DIRECT: the law FnProofTexts returns true at every argument: bytes that are read as a proof are that proof's bytes, and what is not read the reference does not read either. No condition. -/
set_option linter.unusedVariables false
namespace Go.Proofs.Ytchmaojmknfbpaa.Pure
open Go Go.RowKit Go.Proofs.Ytchmaojmknfbpaa.S Go.Proofs.YtchmaojmknfbpaaW.PrintWords Go.Proofs.YtchmaojmknfbpaaW.PrintLast Go.Proofs.YtchmaojmknfbpaaW.PrintMore Go.Proofs.Ytchmaojmknfbpaa.Base

theorem FnProofTexts (l0 : List Int) (hl : l0.length ≤ 9223372036854775807) (hw : ∀ y ∈ l0, (Lit.int .u8 y).wf = true) (A0 : Option Addr) (c0 : Nat) (w : World) (hr0 : Kd.C (Kd.int .u8) w A0 l0.length l0) (hc0 : l0.length ≤ c0) :
    Calls Try.prog 6 #[.slice A0 l0.length c0] w fun e w' => e = .returned (.bool true) ∧ Below w.heap.size w w' := by
  have hy := byt_of_wf hw
  have hbig : laws_lwBig.f l0 = some (decide ((l0.length : Int) > 1048576)) := rfl
  by_cases hc : (l0.length : Int) > 1048576
  · rw [decide_eq_true hc] at hbig
    exact law_FnProofTexts_big A0 c0 l0 w hr0 hc0 hbig
  rw [decide_eq_false hc] at hbig
  obtain ⟨x, hd, hx⟩ := drawUp_ok hy
  obtain ⟨kd, hd⟩ := hd.rounds
  obtain ⟨q0, q1, q2, ps, his, hi, hs⟩ := up_ex hx
  by_cases hq : q0 = 0
  · rcases his with ⟨h5, _⟩ | ⟨_, ⟨a1, a2⟩, ⟨b1, b2⟩, hxp, L, hL, si, ss, hr⟩
    · omega
    · have hk := impl_PackProof_ev q1 q2 L hL si ps
      rw [show packProofV q1 q2 L ps = (0, x) from by
        unfold packProofV
        rw [if_pos hr, hxp]
        unfold proofW
        rw [Int.emod_eq_of_lt a1 (by omega), Int.emod_eq_of_lt b1 (by omega)]
        rfl] at hk
      obtain ⟨kk, hk⟩ := hk.rounds
      have he : laws_lwBytes.f x x = some true := by
        unfold laws_lwBytes.f
        simp
      have hn : 0 < x.length := by
        rw [hxp, packL_cons_length]
        omega
      exact law_FnProofTexts_ok A0 c0 l0 x q0 q1 q2 ps kd kk w hr0 hc0 hbig hd hi hq hk he hn
  · exact law_FnProofTexts_bad A0 c0 l0 x q0 q1 q2 ps kd w hr0 hc0 hbig hd hi hs hq
end Go.Proofs.Ytchmaojmknfbpaa.Pure
