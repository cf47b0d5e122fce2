import Derived.Test.YtecndndpjekjbaaShaI
import Derived.Test.YtecndndpjekjbaaPStr
import Derived.Test.YtecndndpjekjbaaSxSpecTaggedDigest
import Derived.Test.YtecndndpjekjbaaSxImplTaggedY
import Derived.Test.YtecndndpjekjbaaSxImplDigestY
import Derived.Test.YtecndndpjekjbaaSxSpecDigest
import Derived.Test.YtecndndpjekjbaaBase
import Derived.Test.YtecndndpjekjbaaSxImplSmall
import Derived.Test.YtecndndpjekjbaaSxSpecL1
import Derived.Test.YtecndndpjekjbaaSxImplKeys
import Derived.Test.YtecndndpjekjbaaSxSpecL4
import Derived.Test.YtecndndpjekjbaaSxImplSmall
import Derived.Test.YtecndndpjekjbaaSxImplKeys
import Derived.Test.YtecndndpjekjbaaSxSpecL4
import Derived.Test.YtecndndpjekjbaaSxSlicesCloneByteByte
import Derived.Test.YtecndndpjekjbaaSxImplKeys
import Derived.Test.YtecndndpjekjbaaSxSpecL4
import Derived.Test.YtecndndpjekjbaaSxSpecTree
import Derived.Test.YtecndndpjekjbaaSxImplTree
import Derived.Test.YtecndndpjekjbaaSxImplTree
import Derived.Test.YtecndndpjekjbaaSxSpecTree
import Derived.Test.YtecndndpjekjbaaSxImplKeys
import Derived.Test.YtecndndpjekjbaaSxSpecL4
import Derived.Test.YtecndndpjekjbaaSxLawsHelp
import Derived.Test.YtecndndpjekjbaaSxLawsHelp
import Derived.Test.YtecndndpjekjbaaSxLawsHelp
import Derived.Test.YtecndndpjekjbaaSxLawsFnExactKeyRoot
import Derived.Test.YtecndndpjekjbaaSxImplKeyRoot
import Derived.Test.YtecndndpjekjbaaSxSpecKeyRoot
/- The digest and the tagged digest, as plain functions: what the program's and the reference's come to. For all bytes that fit. -/
set_option linter.unusedVariables false
namespace Go.Proofs.Ytecndndpjekjbaa.S
open Go.RowKit Go.Proofs.YtecndndpjekjbaaW.PrintWords Go.Proofs.YtecndndpjekjbaaW.PrintLast Go.Proofs.YtecndndpjekjbaaW.PrintMore Go.Proofs.Ytecndndpjekjbaa.Base Go.Proofs.Ytecndndpjekjbaa.Sha

theorem spec_dig {l : List Int} (hl : Byt l) (hn : l.length < 70000000000000) : spec_Digest.f l = some (sha l) := by
  unfold spec_Digest.f
  refine if_pos ?_
  unfold spec_Digest.ok
  rw [Bool.and_eq_true]
  exact ⟨List.all_eq_true.2 (fun x hx => decide_eq_true (hl x hx)), decide_eq_true hn⟩
theorem impl_dig {ls : List (List Int)} (hl : Byt ls.flatten) (hn : ls.flatten.length < 70000000000000) : impl_digest.f ls = some (sha ls.flatten) := by
  unfold impl_digest.f
  refine if_pos ?_
  unfold impl_digest.ok
  rw [Bool.and_eq_true]
  exact ⟨List.all_eq_true.2 (fun x hx => decide_eq_true (hl x hx)), decide_eq_true hn⟩
/-- The tagged digest. -/
def tg (t : ByteArray) (l : List Int) : List Int := sha ([(t.size : Int) % 256] ++ bytesOf t ++ l)
theorem tg_length (t : ByteArray) (l : List Int) : (tg t l).length = 32 := sha_length _
theorem tg_byt (t : ByteArray) (l : List Int) : Byt (tg t l) := sha_byt _
theorem tg_byt0 {t : ByteArray} {l : List Int} (hl : Byt l) : Byt ([(t.size : Int) % 256] ++ bytesOf t ++ l) :=
  byt_append (byt_append (byt_one (by omega) (by omega)) (bytesOf_byt t)) hl
theorem spec_tag {t : ByteArray} {l : List Int} (hl : Byt l) (hn : t.size + l.length < 60000000000000) : spec_TaggedDigest.f t l = some (tg t l) := by
  unfold spec_TaggedDigest.f
  refine spec_dig (tg_byt0 hl) ?_
  rw [List.length_append, List.length_append, bytesOf_length, List.length_singleton]
  omega
theorem impl_tag {t : ByteArray} {ls : List (List Int)} (hl : Byt ls.flatten) (hn : t.size + ls.flatten.length < 60000000000000) (hc : ls.length < 5000000000000) : impl_tagged.f t ls = some (tg t ls.flatten) := by
  unfold impl_tagged.f
  rw [if_pos (by omega)]
  have e : ([[(t.size : Int) % 256], bytesOf t] ++ ls).flatten = [(t.size : Int) % 256] ++ bytesOf t ++ ls.flatten := by simp
  rw [impl_dig (by rw [e]; exact tg_byt0 hl) (by rw [e, List.length_append, List.length_append, bytesOf_length, List.length_singleton]; omega), e]
  rfl
theorem impl_tag1 {t : ByteArray} {l : List Int} (hl : Byt l) (hn : t.size + l.length < 60000000000000) : impl_tagged.f t [l] = some (tg t l) := by
  have e : [l].flatten = l := by simp
  have h := impl_tag (t := t) (ls := [l]) (by rw [e]; exact hl) (by rw [e]; exact hn) (by simp)
  rw [e] at h
  exact h
theorem impl_tag2 {t : ByteArray} {l m : List Int} (hl : Byt l) (hm : Byt m) (hn : t.size + l.length + m.length < 60000000000000) : impl_tagged.f t [l, m] = some (tg t (l ++ m)) := by
  have e : [l, m].flatten = l ++ m := by simp
  have h := impl_tag (t := t) (ls := [l, m]) (by rw [e]; exact byt_append hl hm) (by rw [e, List.length_append]; omega) (by simp)
  rw [e] at h
  exact h
end Go.Proofs.Ytecndndpjekjbaa.S

/- Is a number in its bounds: the program's and the reference's answer. -/
set_option linter.unusedVariables false
namespace Go.Proofs.Ytecndndpjekjbaa.S
open Go.RowKit Go.Proofs.YtecndndpjekjbaaW.PrintWords Go.Proofs.YtecndndpjekjbaaW.PrintLast Go.Proofs.YtecndndpjekjbaaW.PrintMore Go.Proofs.Ytecndndpjekjbaa.Base

theorem in_eq (a b c : Int) : impl_in.f a b c = some (decide (b ≤ a ∧ a ≤ c)) := by
  unfold impl_in.f
  by_cases h : b ≤ a <;> simp [h]
theorem l1In_eq (a b c : Int) : spec_l1In.f a b c = some (decide (b ≤ a ∧ a ≤ c)) := by
  unfold spec_l1In.f
  by_cases h : b ≤ a <;> simp [h]
end Go.Proofs.Ytecndndpjekjbaa.S

/- The secret of a chain: what the program's and the reference's come to. For all bytes that fit. -/
set_option linter.unusedVariables false
namespace Go.Proofs.Ytecndndpjekjbaa.S
open Go.RowKit Go.Proofs.YtecndndpjekjbaaW.PrintWords Go.Proofs.YtecndndpjekjbaaW.PrintLast Go.Proofs.YtecndndpjekjbaaW.PrintMore Go.Proofs.Ytecndndpjekjbaa.Base Go.Proofs.Ytecndndpjekjbaa.Sha

def secV (l : List Int) (a c : Int) : List Int := tg (⟨#[107, 101, 121]⟩ : ByteArray) (l ++ [a % 256, c % 256])
theorem two_byt (a c : Int) : Byt [a % 256, c % 256] := fun x hx => by
  simp only [List.mem_cons, List.not_mem_nil, or_false] at hx
  rcases hx with rfl | rfl <;> omega
theorem secV_length (l : List Int) (a c : Int) : (secV l a c).length = 32 := tg_length _ _
theorem secV_byt (l : List Int) (a c : Int) : Byt (secV l a c) := tg_byt _ _
theorem impl_secret_eq {l : List Int} (hl : Byt l) (hn : l.length ≤ 4294967296) (a c : Int) : impl_secret.f l a c = some (secV l a c) := by
  have h4 : (⟨#[107, 101, 121]⟩ : ByteArray).size = 3 := rfl
  unfold impl_secret.f
  rw [impl_tag2 hl (two_byt a c) (by simp; omega)]
  rfl
theorem spec_secret_eq {l : List Int} (hl : Byt l) (hn : l.length ≤ 4294967296) (a c : Int) : spec_l4Secret.f l a c = some (secV l a c) := by
  have h4 : (⟨#[107, 101, 121]⟩ : ByteArray).size = 3 := rfl
  unfold spec_l4Secret.f
  simp only [Option.bind_some, List.length_nil, List.nil_append, List.length_cons]
  rw [if_pos (show 0 + l.length < 140737488355328 by omega), if_pos (show l.length + (0 + 1 + 1) < 140737488355328 by omega), spec_tag (byt_append hl (two_byt a c)) (by simp; omega)]
  rfl
def askV (n : Nat) (a : Int) : Int := if n > 200 then 2 else if 0 ≤ a ∧ a ≤ 3 then 0 else 3
theorem impl_seedCode_eq (l : List Int) (a : Int) : impl_seedCode.f l a = some (askV l.length a) := by
  unfold impl_seedCode.f askV impl_isLeaf.f
  rw [in_eq]
  by_cases h : l.length > 200
  · rw [if_pos h, if_pos (by omega)]
  · rw [if_neg h, if_neg (by omega)]
    by_cases g : 0 ≤ a ∧ a ≤ 3 <;> simp [g]
theorem spec_asked_eq (l : List Int) (a : Int) : spec_l4Asked.f l a = some (askV l.length a) := by
  unfold spec_l4Asked.f askV
  rw [l1In_eq]
  by_cases h : l.length > 200
  · rw [if_pos h, if_pos (by omega)]
  · rw [if_neg h, if_neg (by omega)]
    by_cases g : 0 ≤ a ∧ a ≤ 3 <;> simp [g]
end Go.Proofs.Ytecndndpjekjbaa.S

/- Steps of a chain: what the program's climb and the reference's come to. For all bytes that fit. -/
set_option linter.unusedVariables false
namespace Go.Proofs.Ytecndndpjekjbaa.S
open Go.RowKit Go.Proofs.YtecndndpjekjbaaW.PrintWords Go.Proofs.YtecndndpjekjbaaW.PrintLast Go.Proofs.YtecndndpjekjbaaW.PrintMore Go.Proofs.Ytecndndpjekjbaa.Base Go.Proofs.Ytecndndpjekjbaa.Sha

def stepsV : Nat → List Int → List Int
  | 0, l => l
  | n + 1, l => stepsV n (tg (⟨#[115, 116, 101, 112]⟩ : ByteArray) l)
theorem stepsV_byt : ∀ (n : Nat) {l : List Int}, Byt l → Byt (stepsV n l)
  | 0, _, h => h
  | n + 1, _, _ => stepsV_byt n (tg_byt _ _)
theorem stepsV_length : ∀ (n : Nat) (l : List Int), n = 0 ∧ (stepsV n l).length = l.length ∨ n ≠ 0 ∧ (stepsV n l).length = 32
  | 0, _ => .inl ⟨rfl, rfl⟩
  | n + 1, l => .inr ⟨by omega, by
    rcases stepsV_length n (tg (⟨#[115, 116, 101, 112]⟩ : ByteArray) l) with h | h
    · show (stepsV n _).length = 32
      rw [h.2, tg_length]
    · exact h.2⟩
theorem climb_l0 (n : Int) (h0 : 0 ≤ n) (h1 : n ≤ 4294967296) : ∀ (d : Nat) (i : Int) (x : List Int), i + d = n → 0 ≤ i → Byt x → x.length ≤ 4294967296 → Ev (fun k => impl_climb.l0 k x n i) (stepsV d x) := by
  intro d
  have h4 : (⟨#[115, 116, 101, 112]⟩ : ByteArray).size = 4 := rfl
  induction d with
  | zero =>
    intro i x hi _ _ _
    exact ev_step (fun k => impl_climb.l0.eq_2 _ _ _ _) (ev_neg (by omega) (ev_now rfl))
  | succ d ih =>
    intro i x hi hi0 hx hl
    refine ev_step (fun k => impl_climb.l0.eq_2 _ _ _ _) (ev_pos (by omega) (ev_bind (ev_now (impl_tag1 hx (by omega))) ?_))
    rw [w64 (by omega) (by omega)]
    exact ih (i + 1) _ (by omega) (by omega) (tg_byt _ _) (by rw [tg_length]; omega)
theorem climb_ev {l : List Int} (hl : Byt l) (hn : l.length ≤ 4294967296) (n : Nat) (h1 : n ≤ 4294967296) : Ev (fun k => impl_climb.f k l (n : Int)) (stepsV n l) := by
  unfold impl_climb.f
  refine ev_bind (ev_now (a := slices_Clone_byte_byte.f l) (r := l) (by unfold slices_Clone_byte_byte.f; rw [if_pos (by omega)])) ?_
  exact climb_l0 n (by omega) (by omega) n 0 l (by omega) (by omega) hl hn
theorem l4Step_ev : ∀ (n : Nat) {l : List Int}, Byt l → l.length ≤ 4294967296 → n ≤ 4294967296 → Ev (fun k => spec_l4Step.f k l (n : Int)) (stepsV n l) := by
  intro n
  have h4 : (⟨#[115, 116, 101, 112]⟩ : ByteArray).size = 4 := rfl
  induction n with
  | zero =>
    intro l hl hn _
    unfold spec_l4Step.f
    refine ev_step (fun k => spec_l4Step.l0.eq_2 _ _ _) (ev_neg (by omega) (ev_now ?_))
    simp only [Option.bind_some, List.length_nil, List.nil_append]
    rw [if_pos (by omega)]
    rfl
  | succ n ih =>
    intro l hl hn h1
    unfold spec_l4Step.f
    refine ev_step (fun k => spec_l4Step.l0.eq_2 _ _ _) (ev_pos (by omega) (ev_bind (ev_now (spec_tag hl (by omega))) ?_))
    rw [w64 (by omega) (by omega), show ((n + 1 : Nat) : Int) - 1 = (n : Int) by omega]
    exact ih (tg_byt _ _) (by rw [tg_length]; omega) (by omega)
end Go.Proofs.Ytecndndpjekjbaa.S

/- The public leaf of a key: what the program's and the reference's come to. For all bytes that fit. -/
set_option linter.unusedVariables false
namespace Go.Proofs.Ytecndndpjekjbaa.S
open Go.RowKit Go.Proofs.YtecndndpjekjbaaW.PrintWords Go.Proofs.YtecndndpjekjbaaW.PrintLast Go.Proofs.YtecndndpjekjbaaW.PrintMore Go.Proofs.Ytecndndpjekjbaa.Base Go.Proofs.Ytecndndpjekjbaa.Sha

def endV (l : List Int) (a c : Int) : List Int := stepsV 3 (secV l a c)
theorem endV_byt (l : List Int) (a c : Int) : Byt (endV l a c) := stepsV_byt 3 (secV_byt l a c)
theorem endV_length (l : List Int) (a c : Int) : (endV l a c).length = 32 := by
  rcases stepsV_length 3 (secV l a c) with h | h
  · omega
  · exact h.2
def pubV (l : List Int) (a : Int) : Nat → List Int
  | 0 => []
  | n + 1 => pubV l a n ++ endV l a (n : Int)
theorem pubV_length (l : List Int) (a : Int) : ∀ n, (pubV l a n).length = 32 * n
  | 0 => rfl
  | n + 1 => by
    show (pubV l a n ++ endV l a (n : Int)).length = _
    rw [List.length_append, pubV_length l a n, endV_length]
    omega
theorem pubV_byt (l : List Int) (a : Int) : ∀ n, Byt (pubV l a n)
  | 0 => byt_nil
  | n + 1 => byt_append (pubV_byt l a n) (endV_byt l a _)
theorem impl_public_l0 {l : List Int} (hl : Byt l) (hn : l.length ≤ 4294967296) (a : Int) : ∀ (d i : Nat), i + d = 19 → Ev (fun k => impl_publicLeaf.l0 k l a (pubV l a i) (i : Int)) (pubV l a 19) := by
  intro d
  induction d with
  | zero =>
    intro i hi
    obtain rfl : i = 19 := by omega
    exact ev_step (fun k => impl_publicLeaf.l0.eq_2 _ _ _ _ _) (ev_neg (by omega) (ev_now rfl))
  | succ d ih =>
    intro i hi
    refine ev_step (fun k => impl_publicLeaf.l0.eq_2 _ _ _ _ _) (ev_pos (by omega) (ev_bind (ev_now (impl_secret_eq hl hn a (i : Int))) (ev_bind (climb_ev (secV_byt l a (i : Int)) (by rw [secV_length]; omega) 3 (by omega)) ?_)))
    refine ev_pos (by rw [pubV_length, show (stepsV 3 (secV l a (i : Int))).length = 32 from endV_length l a _]; omega) ?_
    rw [w64s (by omega)]
    exact ih (i + 1) (by omega)
theorem spec_public_l0 {l : List Int} (hl : Byt l) (hn : l.length ≤ 4294967296) (a : Int) : ∀ (d i : Nat), i + d = 19 → Ev (fun k => spec_l4Public.l0 k l a (pubV l a i) (i : Int)) (pubV l a 19) := by
  intro d
  induction d with
  | zero =>
    intro i hi
    obtain rfl : i = 19 := by omega
    exact ev_step (fun k => spec_l4Public.l0.eq_2 _ _ _ _ _) (ev_neg (by omega) (ev_now rfl))
  | succ d ih =>
    intro i hi
    refine ev_step (fun k => spec_l4Public.l0.eq_2 _ _ _ _ _) (ev_pos (by omega) (ev_bind (ev_now (spec_secret_eq hl hn a (i : Int))) (ev_bind (l4Step_ev 3 (secV_byt l a (i : Int)) (by rw [secV_length]; omega) (by omega)) ?_)))
    refine ev_pos (by rw [pubV_length, show (stepsV 3 (secV l a (i : Int))).length = 32 from endV_length l a _]; omega) ?_
    rw [w64s (by omega)]
    exact ih (i + 1) (by omega)
def publicV (l : List Int) (a : Int) : List Int := pubV l a 19
theorem publicV_byt (l : List Int) (a : Int) : Byt (publicV l a) := pubV_byt l a 19
theorem publicV_length (l : List Int) (a : Int) : (publicV l a).length = 608 := pubV_length l a 19
theorem impl_public_ev {l : List Int} (hl : Byt l) (hn : l.length ≤ 4294967296) (a : Int) : Ev (fun k => impl_publicLeaf.f k l a) (publicV l a) := impl_public_l0 hl hn a 19 0 (by omega)
theorem spec_public_ev {l : List Int} (hl : Byt l) (hn : l.length ≤ 4294967296) (a : Int) : Ev (fun k => spec_l4Public.f k l a) (publicV l a) := spec_public_l0 hl hn a 19 0 (by omega)
end Go.Proofs.Ytecndndpjekjbaa.S

/- How a tree is split, and on which side the other parts are: the program's splitAt and sides and the reference's l3Split and l3Sides agree for 1 to 16 leaves. -/
set_option linter.unusedVariables false
namespace Go.Proofs.Ytecndndpjekjbaa.S
open Go.RowKit Go.Proofs.YtecndndpjekjbaaW.PrintWords Go.Proofs.YtecndndpjekjbaaW.PrintLast Go.Proofs.YtecndndpjekjbaaW.PrintMore Go.Proofs.Ytecndndpjekjbaa.Base

def splitV (n : Int) : Int := if n ≤ 2 then 1 else if n ≤ 4 then 2 else if n ≤ 8 then 4 else 8
theorem splitV_range {n : Int} (h : 2 ≤ n) (h1 : n ≤ 16) : 1 ≤ splitV n ∧ splitV n < n ∧ splitV n ≤ 8 ∧ n - splitV n ≤ 8 := by
  unfold splitV
  repeat' split
  all_goals omega
theorem wd (x : Int) (h0 : 0 ≤ x) (h1 : x ≤ 16) : wrap64 (2 * x) = 2 * x := w64 (by omega) (by omega)
theorem wd' (x : Int) (h0 : 0 ≤ x) (h1 : x ≤ 16) : wrap64 (x * 2) = 2 * x := by rw [w64 (by omega) (by omega)]; omega
theorem spec_split_ev {n : Int} (h : 2 ≤ n) (h1 : n ≤ 16) : Ev (fun k => spec_l3Split.f k n) (splitV n) := by
  unfold spec_l3Split.f splitV
  refine ev_step (fun k => spec_l3Split.l0.eq_2 _ _ _) ?_
  rw [wd 1 (by omega) (by omega)]
  by_cases c1 : n ≤ 2
  · rw [if_pos c1]; exact ev_neg (by omega) (ev_now rfl)
  rw [if_neg c1]; refine ev_pos (by omega) ?_
  refine ev_step (fun k => spec_l3Split.l0.eq_2 _ _ _) ?_
  rw [wd (2 * 1) (by omega) (by omega)]
  by_cases c2 : n ≤ 4
  · rw [if_pos c2]; exact ev_neg (by omega) (ev_now rfl)
  rw [if_neg c2]; refine ev_pos (by omega) ?_
  refine ev_step (fun k => spec_l3Split.l0.eq_2 _ _ _) ?_
  rw [wd (2 * (2 * 1)) (by omega) (by omega)]
  by_cases c3 : n ≤ 8
  · rw [if_pos c3]; exact ev_neg (by omega) (ev_now rfl)
  rw [if_neg c3]; refine ev_pos (by omega) ?_
  refine ev_step (fun k => spec_l3Split.l0.eq_2 _ _ _) ?_
  rw [wd (2 * (2 * (2 * 1))) (by omega) (by omega)]
  exact ev_neg (by omega) (ev_now rfl)
theorem impl_split_ev {n : Int} (h : 2 ≤ n) (h1 : n ≤ 16) : Ev (fun k => impl_splitAt.f k n) (splitV n) := by
  unfold impl_splitAt.f splitV
  refine ev_step (fun k => impl_splitAt.l0.eq_2 _ _ _) ?_
  rw [wd 1 (by omega) (by omega), wd' 1 (by omega) (by omega)]
  by_cases c1 : n ≤ 2
  · rw [if_pos c1]; exact ev_neg (by omega) (ev_now rfl)
  rw [if_neg c1]; refine ev_pos (by omega) ?_
  refine ev_step (fun k => impl_splitAt.l0.eq_2 _ _ _) ?_
  rw [wd (2 * 1) (by omega) (by omega), wd' (2 * 1) (by omega) (by omega)]
  by_cases c2 : n ≤ 4
  · rw [if_pos c2]; exact ev_neg (by omega) (ev_now rfl)
  rw [if_neg c2]; refine ev_pos (by omega) ?_
  refine ev_step (fun k => impl_splitAt.l0.eq_2 _ _ _) ?_
  rw [wd (2 * (2 * 1)) (by omega) (by omega), wd' (2 * (2 * 1)) (by omega) (by omega)]
  by_cases c3 : n ≤ 8
  · rw [if_pos c3]; exact ev_neg (by omega) (ev_now rfl)
  rw [if_neg c3]; refine ev_pos (by omega) ?_
  refine ev_step (fun k => impl_splitAt.l0.eq_2 _ _ _) ?_
  rw [wd (2 * (2 * (2 * 1))) (by omega) (by omega)]
  exact ev_neg (by omega) (ev_now rfl)
/-- The sides of the way from leaf p up in a tree of n leaves: true: the other part is on the left. -/
theorem sides_ev : ∀ (m : Nat) (n p : Int), n ≤ m → 1 ≤ n → n ≤ 16 → 0 ≤ p → p < n → ∃ L : List Bool, (L.length : Int) < n ∧ Ev (fun k => impl_sides.f k n p) L ∧ Ev (fun k => spec_l3Sides.f k n p) (L.map not) := by
  intro m
  induction m with
  | zero => intro n p h h1; omega
  | succ m ih =>
    intro n p h h1 h2 hp hq
    by_cases e : n = 1
    · refine ⟨[], by simp; omega, ?_, ?_⟩
      · exact ev_step (fun k => impl_sides.f.eq_2 _ _ _) (ev_pos e (ev_now rfl))
      · exact ev_step (fun k => spec_l3Sides.f.eq_2 _ _ _) (ev_pos (by omega) (ev_now rfl))
    · have hr := splitV_range (n := n) (by omega) h2
      have hs := spec_split_ev (n := n) (by omega) h2
      have hi := impl_split_ev (n := n) (by omega) h2
      generalize splitV n = v at hr hs hi
      by_cases c : p < v
      · obtain ⟨L, l1, l2, l3⟩ := ih v p (by omega) (by omega) (by omega) hp c
        refine ⟨L ++ [false], by simp; omega, ?_, ?_⟩
        · refine ev_step (fun k => impl_sides.f.eq_2 _ _ _) (ev_neg e (ev_bind hi (ev_pos c (ev_bind l2 (ev_pos ?_ (ev_now rfl))))))
          omega
        · refine ev_step (fun k => spec_l3Sides.f.eq_2 _ _ _) (ev_neg (by omega) (ev_bind hs (ev_pos c (ev_bind l3 (ev_pos ?_ (ev_now (by simp)))))))
          rw [List.length_map]; omega
      · obtain ⟨L, l1, l2, l3⟩ := ih (n - v) (p - v) (by omega) (by omega) (by omega) (by omega) (by omega)
        have e1 : wrap64 (n - v) = n - v := w64 (by omega) (by omega)
        have e2 : wrap64 (p - v) = p - v := w64 (by omega) (by omega)
        refine ⟨L ++ [true], by simp; omega, ?_, ?_⟩
        · refine ev_step (fun k => impl_sides.f.eq_2 _ _ _) (ev_neg e (ev_bind hi (ev_neg c ?_)))
          rw [e1, e2]
          exact ev_bind l2 (ev_pos (by omega) (ev_now rfl))
        · refine ev_step (fun k => spec_l3Sides.f.eq_2 _ _ _) (ev_neg (by omega) (ev_bind hs (ev_neg c ?_)))
          rw [e1, e2]
          exact ev_bind l3 (ev_pos (by rw [List.length_map]; omega) (ev_now (by simp)))
end Go.Proofs.Ytecndndpjekjbaa.S

/- The root of a tree of events: what the program's and the reference's come to. For up to 16 events of bytes that fit. -/
set_option linter.unusedVariables false
namespace Go.Proofs.Ytecndndpjekjbaa.S
open Go.RowKit Go.Proofs.YtecndndpjekjbaaW.PrintWords Go.Proofs.YtecndndpjekjbaaW.PrintLast Go.Proofs.YtecndndpjekjbaaW.PrintMore Go.Proofs.Ytecndndpjekjbaa.Base Go.Proofs.Ytecndndpjekjbaa.Sha

def leafV (l : List Int) : List Int := tg (⟨#[108, 101, 97, 102]⟩ : ByteArray) l
def nodeV (l m : List Int) : List Int := tg (⟨#[110, 111, 100, 101]⟩ : ByteArray) (l ++ m)
theorem impl_leaf_eq {l : List Int} (hl : Byt l) (hn : l.length ≤ 4294967296) : impl_LeafDigest.f l = some (leafV l) := by
  have h4 : (⟨#[108, 101, 97, 102]⟩ : ByteArray).size = 4 := rfl
  unfold impl_LeafDigest.f
  rw [impl_tag1 hl (by omega)]
  rfl
theorem spec_leaf_eq {l : List Int} (hl : Byt l) (hn : l.length ≤ 4294967296) : spec_LeafDigest.f l = some (leafV l) := by
  have h4 : (⟨#[108, 101, 97, 102]⟩ : ByteArray).size = 4 := rfl
  unfold spec_LeafDigest.f
  rw [spec_tag hl (by omega)]
  rfl
theorem impl_node_eq {l m : List Int} (hl : Byt l) (hm : Byt m) (hn : l.length ≤ 4294967296) (hn2 : m.length ≤ 4294967296) : impl_NodeDigest.f l m = some (nodeV l m) := by
  have h4 : (⟨#[110, 111, 100, 101]⟩ : ByteArray).size = 4 := rfl
  unfold impl_NodeDigest.f
  rw [impl_tag2 hl hm (by omega)]
  rfl
theorem spec_node_eq {l m : List Int} (hl : Byt l) (hm : Byt m) (hn : l.length ≤ 4294967296) (hn2 : m.length ≤ 4294967296) : spec_NodeDigest.f l m = some (nodeV l m) := by
  have h4 : (⟨#[110, 111, 100, 101]⟩ : ByteArray).size = 4 := rfl
  unfold spec_NodeDigest.f
  simp only [Option.bind_some, List.length_nil, List.nil_append]
  rw [if_pos (show 0 + l.length < 140737488355328 by omega), if_pos (show l.length + m.length < 140737488355328 by omega), spec_tag (byt_append hl hm) (by rw [List.length_append]; omega)]
  rfl
/-- How many of n leaves are on the left. -/
def cutV (n : Nat) : Nat := (splitV (n : Int)).toNat
theorem cutV_cast {n : Nat} (h : 2 ≤ n) (h1 : n ≤ 16) : ((cutV n : Nat) : Int) = splitV (n : Int) := by
  have := splitV_range (n := (n : Int)) (by omega) (by omega)
  unfold cutV
  omega
theorem cutV_range {n : Nat} (h : 2 ≤ n) (h1 : n ≤ 16) : 1 ≤ cutV n ∧ cutV n < n := by
  have := splitV_range (n := (n : Int)) (by omega) (by omega)
  have := cutV_cast h h1
  omega
def rootV : Nat → List (List Int) → List Int
  | 0, _ => []
  | m + 1, ls => if ls.length = 0 then tg (⟨#[110, 111, 110, 101]⟩ : ByteArray) [] else if ls.length = 1 then leafV (ls.getD 0 []) else nodeV (rootV m (ls.take (cutV ls.length))) (rootV m (ls.drop (cutV ls.length)))
/-- Leaves that fit. -/
def Leaves (ls : List (List Int)) : Prop := ls.length ≤ 16 ∧ ∀ l ∈ ls, Byt l ∧ l.length ≤ 4294967296
theorem Leaves.take {ls : List (List Int)} (h : Leaves ls) (n : Nat) : Leaves (ls.take n) := ⟨by have := h.1; rw [List.length_take]; omega, fun l hl => h.2 l (List.mem_of_mem_take hl)⟩
theorem Leaves.drop {ls : List (List Int)} (h : Leaves ls) (n : Nat) : Leaves (ls.drop n) := ⟨by have := h.1; rw [List.length_drop]; omega, fun l hl => h.2 l (List.mem_of_mem_drop hl)⟩
theorem rd_L_zero (ls : List (List Int)) : rd_L1 ls 0 = ls.getD 0 [] := rfl
theorem rootV_ok : ∀ (m : Nat) (ls : List (List Int)), ls.length ≤ m → Byt (rootV (m + 1) ls) ∧ (rootV (m + 1) ls).length = 32 := by
  intro m
  induction m with
  | zero =>
    intro ls h
    unfold rootV
    rw [if_pos (by omega)]
    exact ⟨tg_byt _ _, tg_length _ _⟩
  | succ m ih =>
    intro ls h
    unfold rootV
    split
    · exact ⟨tg_byt _ _, tg_length _ _⟩
    · split
      · exact ⟨tg_byt _ _, tg_length _ _⟩
      · exact ⟨tg_byt _ _, tg_length _ _⟩
theorem root_ev : ∀ (m : Nat) (ls : List (List Int)), ls.length ≤ m → Leaves ls → Ev (fun k => impl_rootOf.f k ls) (rootV (m + 1) ls) ∧ Ev (fun k => spec_l3Root.f k ls) (rootV (m + 1) ls) := by
  intro m
  have h4 : (⟨#[110, 111, 110, 101]⟩ : ByteArray).size = 4 := rfl
  induction m with
  | zero =>
    intro ls h hL
    unfold rootV
    rw [if_pos (by omega)]
    exact ⟨ev_step (fun k => impl_rootOf.f.eq_2 _ _) (ev_pos (by omega) (ev_bind (ev_now (impl_tag (ls := []) byt_nil (by simp only [List.flatten_nil, List.length_nil]; omega) (by simp))) (ev_now rfl))), ev_step (fun k => spec_l3Root.f.eq_2 _ _) (ev_pos (by omega) (ev_bind (ev_now (spec_tag byt_nil (by simp only [List.length_nil]; omega))) (ev_now rfl)))⟩
  | succ m ih =>
    intro ls h hL
    by_cases h0 : ls.length = 0
    · unfold rootV
      rw [if_pos h0]
      exact ⟨ev_step (fun k => impl_rootOf.f.eq_2 _ _) (ev_pos (by omega) (ev_bind (ev_now (impl_tag (ls := []) byt_nil (by simp only [List.flatten_nil, List.length_nil]; omega) (by simp))) (ev_now rfl))), ev_step (fun k => spec_l3Root.f.eq_2 _ _) (ev_pos (by omega) (ev_bind (ev_now (spec_tag byt_nil (by simp only [List.length_nil]; omega))) (ev_now rfl)))⟩
    by_cases h1 : ls.length = 1
    · have hm : ls.getD 0 [] ∈ ls := by
        rw [List.getD_eq_getElem?_getD, List.getElem?_eq_getElem (show 0 < ls.length by omega)]
        exact List.getElem_mem _
      obtain ⟨hy, hn⟩ := hL.2 _ hm
      unfold rootV
      rw [if_neg h0, if_pos h1]
      exact ⟨ev_step (fun k => impl_rootOf.f.eq_2 _ _) (ev_neg (by omega) (ev_pos (by omega) (ev_pos (by omega) (ev_bind (ev_now (impl_leaf_eq hy hn)) (ev_now rfl))))), ev_step (fun k => spec_l3Root.f.eq_2 _ _) (ev_neg (by omega) (ev_pos (by omega) (ev_pos (by omega) (ev_bind (ev_now (spec_leaf_eq hy hn)) (ev_now rfl)))))⟩
    · have hl := hL.1
      have hc := cutV_range (n := ls.length) (by omega) hl
      have hcc := cutV_cast (n := ls.length) (by omega) hl
      have hs := spec_split_ev (n := (ls.length : Int)) (by omega) (by omega)
      have hi := impl_split_ev (n := (ls.length : Int)) (by omega) (by omega)
      rw [← hcc] at hs hi
      unfold rootV
      rw [if_neg h0, if_neg h1]
      generalize cutV ls.length = v at *
      have t1 : (ls.take v).length ≤ m := by rw [List.length_take]; omega
      have t2 : (ls.drop v).length ≤ m := by rw [List.length_drop]; omega
      obtain ⟨a1, a2⟩ := ih (ls.take v) t1 (hL.take v)
      obtain ⟨b1, b2⟩ := ih (ls.drop v) t2 (hL.drop v)
      obtain ⟨c1, c2⟩ := rootV_ok m (ls.take v) t1
      obtain ⟨d1, d2⟩ := rootV_ok m (ls.drop v) t2
      refine ⟨ev_step (fun k => impl_rootOf.f.eq_2 _ _) (ev_neg (by omega) (ev_neg (by omega) (ev_bind hi (ev_pos (by omega) (ev_pos (by omega) ?_))))), ev_step (fun k => spec_l3Root.f.eq_2 _ _) (ev_neg (by omega) (ev_neg (by omega) (ev_bind hs (ev_pos (by omega) (ev_pos (by omega) ?_)))))⟩
      · rw [Int.toNat_natCast]
        exact ev_bind a1 (ev_bind b1 (ev_bind (ev_now (impl_node_eq c1 d1 (by omega) (by omega))) (ev_now rfl)))
      · rw [Int.toNat_natCast]
        exact ev_bind a2 (ev_bind b2 (ev_bind (ev_now (spec_node_eq c1 d1 (by omega) (by omega))) (ev_now rfl)))
def root (ls : List (List Int)) : List Int := rootV 17 ls
theorem impl_root_ev {ls : List (List Int)} (h : Leaves ls) : Ev (fun k => impl_rootOf.f k ls) (root ls) := (root_ev 16 ls h.1 h).1
theorem spec_root_ev {ls : List (List Int)} (h : Leaves ls) : Ev (fun k => spec_l3Root.f k ls) (root ls) := (root_ev 16 ls h.1 h).2
theorem root_byt {ls : List (List Int)} (h : ls.length ≤ 16) : Byt (root ls) := (rootV_ok 16 ls h).1
theorem root_length {ls : List (List Int)} (h : ls.length ≤ 16) : (root ls).length = 32 := (rootV_ok 16 ls h).2
end Go.Proofs.Ytecndndpjekjbaa.S

/- The leaves of a key: what the program's and the reference's come to. For all bytes that fit. -/
set_option linter.unusedVariables false
namespace Go.Proofs.Ytecndndpjekjbaa.S
open Go.RowKit Go.Proofs.YtecndndpjekjbaaW.PrintWords Go.Proofs.YtecndndpjekjbaaW.PrintLast Go.Proofs.YtecndndpjekjbaaW.PrintMore Go.Proofs.Ytecndndpjekjbaa.Base Go.Proofs.Ytecndndpjekjbaa.Sha

def keyLeavesV (l : List Int) : Nat → List (List Int)
  | 0 => []
  | n + 1 => keyLeavesV l n ++ [publicV l (n : Int)]
theorem keyLeavesV_length (l : List Int) : ∀ n, (keyLeavesV l n).length = n
  | 0 => rfl
  | n + 1 => by
    show (keyLeavesV l n ++ [publicV l (n : Int)]).length = _
    rw [List.length_append, keyLeavesV_length l n]
    rfl
theorem keyLeavesV_mem (l : List Int) : ∀ n, ∀ x ∈ keyLeavesV l n, Byt x ∧ x.length = 608
  | 0, x, hx => by cases hx
  | n + 1, x, hx => by
    rcases List.mem_append.1 hx with h | h
    · exact keyLeavesV_mem l n x h
    · rw [List.mem_singleton.1 h]
      exact ⟨publicV_byt l _, publicV_length l _⟩
theorem impl_leaves_l0 {l : List Int} (hl : Byt l) (hn : l.length ≤ 4294967296) : ∀ (d i : Nat), i + d = 4 → Ev (fun k => impl_publicLeaves.l0 k l (keyLeavesV l i) (i : Int)) (keyLeavesV l 4) := by
  intro d
  induction d with
  | zero =>
    intro i hi
    obtain rfl : i = 4 := by omega
    exact ev_step (fun k => impl_publicLeaves.l0.eq_2 _ _ _ _) (ev_neg (by omega) (ev_now rfl))
  | succ d ih =>
    intro i hi
    refine ev_step (fun k => impl_publicLeaves.l0.eq_2 _ _ _ _) (ev_pos (by omega) (ev_bind (impl_public_ev hl hn (i : Int)) (ev_pos (by rw [keyLeavesV_length]; omega) ?_)))
    rw [w64s (by omega)]
    exact ih (i + 1) (by omega)
theorem spec_leaves_l0 {l : List Int} (hl : Byt l) (hn : l.length ≤ 4294967296) : ∀ (d i : Nat), i + d = 4 → Ev (fun k => spec_l4Leaves.l0 k l (keyLeavesV l i) (i : Int)) (keyLeavesV l 4) := by
  intro d
  induction d with
  | zero =>
    intro i hi
    obtain rfl : i = 4 := by omega
    exact ev_step (fun k => spec_l4Leaves.l0.eq_2 _ _ _ _) (ev_neg (by omega) (ev_now rfl))
  | succ d ih =>
    intro i hi
    refine ev_step (fun k => spec_l4Leaves.l0.eq_2 _ _ _ _) (ev_pos (by omega) (ev_bind (spec_public_ev hl hn (i : Int)) (ev_pos (by rw [keyLeavesV_length]; omega) ?_)))
    rw [w64s (by omega)]
    exact ih (i + 1) (by omega)
def keyLeaves (l : List Int) : List (List Int) := keyLeavesV l 4
theorem keyLeaves_length (l : List Int) : (keyLeaves l).length = 4 := keyLeavesV_length l 4
theorem keyLeaves_ok (l : List Int) : Leaves (keyLeaves l) := ⟨by rw [keyLeaves_length]; omega, fun x hx => ⟨(keyLeavesV_mem l 4 x hx).1, by rw [(keyLeavesV_mem l 4 x hx).2]; omega⟩⟩
theorem impl_leaves_ev {l : List Int} (hl : Byt l) (hn : l.length ≤ 4294967296) : Ev (fun k => impl_publicLeaves.f k l) (keyLeaves l) := impl_leaves_l0 hl hn 4 0 (by omega)
theorem spec_leaves_ev {l : List Int} (hl : Byt l) (hn : l.length ≤ 4294967296) : Ev (fun k => spec_l4Leaves.f k l) (keyLeaves l) := spec_leaves_l0 hl hn 4 0 (by omega)
end Go.Proofs.Ytecndndpjekjbaa.S

/- What the laws' own helpers on byte slices come to: toByteS copies, eqByteS compares, markByteS and heldByteS count alike. For every slice that fits memory. -/
set_option linter.unusedVariables false
namespace Go.Proofs.Ytecndndpjekjbaa.S
open Go.RowKit Go.Proofs.YtecndndpjekjbaaW.PrintWords Go.Proofs.YtecndndpjekjbaaW.PrintLast Go.Proofs.YtecndndpjekjbaaW.PrintMore Go.Proofs.Ytecndndpjekjbaa.Base

theorem toByteS_l0 (l : List Int) (hl : l.length ≤ 281474976710656) : ∀ (d : Nat) (x : List Int) (i : Nat), i + d = l.length → x.length = l.length → (∀ j, j < i → x[j]? = l[j]?) → Ev (fun k => laws_toByteS.l0 k l x (i : Int)) l := by
  intro d
  induction d with
  | zero =>
    intro x i hi hx hj
    refine ev_step (fun k => laws_toByteS.l0.eq_2 _ _ _ _) ?_
    refine ev_neg (by omega) ?_
    rw [fill_all hx (fun j h => hj j (by omega))]
    exact ev_now rfl
  | succ d ih =>
    intro x i hi hx hj
    refine ev_step (fun k => laws_toByteS.l0.eq_2 _ _ _ _) ?_
    refine ev_pos (by omega) ?_
    refine ev_pos (by omega) ?_
    refine ev_pos (by omega) ?_
    rw [w64s (by omega), Int.toNat_natCast]
    exact ih _ (i + 1) (by omega) (by rw [List.length_set]; exact hx) (fill_step (by omega) hx hj)
theorem toByteS_ev (l : List Int) (hl : l.length ≤ 281474976710656) : Ev (fun k => laws_toByteS.f k l) l := by
  unfold laws_toByteS.f
  refine ev_pos (by omega) ?_
  refine ev_pos (by omega) ?_
  exact toByteS_l0 l hl l.length _ 0 (by omega) (by simp) (fun j h => by omega)
theorem eqByteS_l0 (l : List Int) (hl : l.length ≤ 281474976710656) : ∀ (d i : Nat), i + d = l.length → Ev (fun k => laws_eqByteS.l0 k l l (i : Int)) true := by
  intro d
  induction d with
  | zero =>
    intro i hi
    refine ev_step (fun k => laws_eqByteS.l0.eq_2 _ _ _ _) ?_
    refine ev_neg (by omega) ?_
    exact ev_now rfl
  | succ d ih =>
    intro i hi
    refine ev_step (fun k => laws_eqByteS.l0.eq_2 _ _ _ _) ?_
    refine ev_pos (by omega) ?_
    refine ev_pos (by omega) ?_
    refine ev_pos (by omega) ?_
    refine ev_pos rfl ?_
    rw [w64s (by omega)]
    exact ih (i + 1) (by omega)
theorem eqByteS_ev (l : List Int) (hl : l.length ≤ 281474976710656) : Ev (fun k => laws_eqByteS.f k l l) true := by
  unfold laws_eqByteS.f
  refine ev_pos rfl ?_
  exact eqByteS_l0 l hl l.length 0 (by omega)
end Go.Proofs.Ytecndndpjekjbaa.S

/- What the laws' markByteS and heldByteS come to: places are numbered from a start on, and found numbered so. For every slice and start that fit. -/
set_option linter.unusedVariables false
namespace Go.Proofs.Ytecndndpjekjbaa.S
open Go.RowKit Go.Proofs.YtecndndpjekjbaaW.PrintWords Go.Proofs.YtecndndpjekjbaaW.PrintLast Go.Proofs.YtecndndpjekjbaaW.PrintMore Go.Proofs.Ytecndndpjekjbaa.Base

/-- n places numbered from a on. -/
def marked (a : Int) (n : Nat) : List Int := (List.range n).map fun (j : Nat) => (a + (j : Int)) % 256
theorem marked_length (a : Int) (n : Nat) : (marked a n).length = n := by simp [marked]
theorem marked_at (a : Int) (n j : Nat) (h : j < n) : (marked a n)[j]? = some ((a + (j : Int)) % 256) := by
  simp [marked, List.getElem?_map, List.getElem?_range h]
theorem markByteS_l0 (a : Int) (n : Nat) (h0 : 0 ≤ a) (h1 : a + n ≤ 4611686018427387904) : ∀ (d i : Nat) (x : List Int), i + d = n → x.length = n → (∀ j, j < i → x[j]? = (marked a n)[j]?) → Ev (fun k => laws_markByteS.l0 k x (a + (i : Int)) (i : Int)) (a + (n : Int), marked a n) := by
  intro d
  induction d with
  | zero =>
    intro i x hi hx hj
    refine ev_step (fun k => laws_markByteS.l0.eq_2 _ _ _ _) (ev_neg (by omega) ?_)
    have e : x = marked a n := fill_all (by rw [marked_length]; exact hx) (fun j h => hj j (by rw [marked_length] at h; omega))
    rw [e, show i = n by omega]
    exact ev_now rfl
  | succ d ih =>
    intro i x hi hx hj
    refine ev_step (fun k => laws_markByteS.l0.eq_2 _ _ _ _) (ev_pos (by omega) (ev_pos (by omega) ?_))
    rw [w64s (by omega), w64 (n := a + (i : Int) + 1) (by omega) (by omega), Int.toNat_natCast, show a + (i : Int) + 1 = a + ((i + 1 : Nat) : Int) by omega]
    refine ih (i + 1) _ (by omega) (by rw [List.length_set]; exact hx) ?_
    intro j hj'
    rw [List.getElem?_set]
    by_cases e : i = j
    · subst e
      rw [if_pos rfl, if_pos (by omega), marked_at a n i (by omega)]
    · rw [if_neg e]; exact hj j (by omega)
theorem markByteS_ev (l : List Int) (a : Int) (h0 : 0 ≤ a) (h1 : a + l.length ≤ 4611686018427387904) : Ev (fun k => laws_markByteS.f k l a) (a + (l.length : Int), marked a l.length) := by
  have h := markByteS_l0 a l.length h0 h1 l.length 0 l (by omega) rfl (fun j h => by omega)
  rw [show a + ((0 : Nat) : Int) = a by omega] at h
  exact h
theorem heldByteS_l0 (a : Int) (n : Nat) (h0 : 0 ≤ a) (h1 : a + n ≤ 4611686018427387904) : ∀ (d i : Nat), i + d = n → Ev (fun k => laws_heldByteS.l0 k (marked a n) (a + (i : Int)) (i : Int)) (a + (n : Int)) := by
  intro d
  induction d with
  | zero =>
    intro i hi
    refine ev_step (fun k => laws_heldByteS.l0.eq_2 _ _ _ _) (ev_neg (by rw [marked_length]; omega) ?_)
    rw [show i = n by omega]
    exact ev_now rfl
  | succ d ih =>
    intro i hi
    refine ev_step (fun k => laws_heldByteS.l0.eq_2 _ _ _ _) (ev_pos (by rw [marked_length]; omega) (ev_pos (by omega) (ev_pos ?_ ?_)))
    · unfold rd
      rw [List.getD_eq_getElem?_getD, Int.toNat_natCast, marked_at a n i (by omega)]
      rfl
    · rw [w64s (by omega), w64 (n := a + (i : Int) + 1) (by omega) (by omega), show a + (i : Int) + 1 = a + ((i + 1 : Nat) : Int) by omega]
      exact ih (i + 1) (by omega)
theorem heldByteS_ev (n : Nat) (a : Int) (h0 : 0 ≤ a) (h1 : a + n ≤ 4611686018427387904) : Ev (fun k => laws_heldByteS.f k (marked a n) a) (a + (n : Int)) := by
  have h := heldByteS_l0 a n h0 h1 n 0 (by omega)
  rw [show a + ((0 : Nat) : Int) = a by omega] at h
  exact h
end Go.Proofs.Ytecndndpjekjbaa.S

/- What the laws' helpers on a BytesResult come to. For every result that fits. -/
set_option linter.unusedVariables false
namespace Go.Proofs.Ytecndndpjekjbaa.S
open Go.RowKit Go.Proofs.YtecndndpjekjbaaW.PrintWords Go.Proofs.YtecndndpjekjbaaW.PrintLast Go.Proofs.YtecndndpjekjbaaW.PrintMore Go.Proofs.Ytecndndpjekjbaa.Base

theorem eqBytesResult_ev (c : Int) (l : List Int) (hl : l.length ≤ 281474976710656) : Ev (fun k => laws_eqBytesResult.f k c l c l) true := by
  unfold laws_eqBytesResult.f
  exact ev_pos rfl (ev_bind (eqByteS_ev l hl) (ev_pos rfl (ev_now rfl)))
theorem markBytesResult_ev (c : Int) (l : List Int) (hl : l.length ≤ 281474976710656) : Ev (fun k => laws_markBytesResult.f k c l 1) (1 + (l.length : Int), marked 1 l.length) := by
  unfold laws_markBytesResult.f
  exact ev_bind (markByteS_ev l 1 (by omega) (by omega)) (ev_now rfl)
theorem heldBytesResult_ev (c : Int) (n : Nat) (hl : n ≤ 281474976710656) : Ev (fun k => laws_heldBytesResult.f k c (marked 1 n) 1) (1 + (n : Int)) := by
  unfold laws_heldBytesResult.f
  exact ev_bind (heldByteS_ev n 1 (by omega) (by omega)) (ev_neg (by omega) (ev_now rfl))
end Go.Proofs.Ytecndndpjekjbaa.S

/- The program's KeyRoot and the reference's answer alike, for every argument, in new memory. No condition. -/
set_option linter.unusedVariables false
namespace Go.Proofs.Ytecndndpjekjbaa.S
open Go.RowKit Go.Proofs.YtecndndpjekjbaaW.PrintWords Go.Proofs.YtecndndpjekjbaaW.PrintLast Go.Proofs.YtecndndpjekjbaaW.PrintMore Go.Proofs.Ytecndndpjekjbaa.Base Go.Proofs.Ytecndndpjekjbaa.Sha
def keyRootV (l : List Int) : Int × List Int := if l.length > 200 then (2, []) else (0, root (keyLeaves l))
theorem impl_KeyRoot_ev {l : List Int} (hl : Byt l) (hn : l.length ≤ 4294967296) : Ev (fun k => impl_KeyRoot.f k l) (keyRootV l) := by
  unfold impl_KeyRoot.f keyRootV
  by_cases h : l.length > 200
  · rw [if_pos h]; exact ev_pos (by omega) (ev_now rfl)
  · rw [if_neg h]; exact ev_neg (by omega) (ev_bind (impl_leaves_ev hl hn) (ev_bind (impl_root_ev (keyLeaves_ok l)) (ev_now rfl)))
theorem spec_KeyRoot_ev {l : List Int} (hl : Byt l) (hn : l.length ≤ 4294967296) : Ev (fun k => spec_KeyRoot.f k l) (keyRootV l) := by
  unfold spec_KeyRoot.f keyRootV
  refine ev_bind (ev_now (spec_asked_eq l 0)) ?_
  unfold askV
  by_cases h : l.length > 200
  · simp only [if_pos h]; exact ev_neg (by decide) (ev_now rfl)
  · simp only [if_neg h]; exact ev_pos (by decide) (ev_bind (spec_leaves_ev hl hn) (ev_bind (spec_root_ev (keyLeaves_ok l)) (ev_now rfl)))
theorem keyRootV_length (l : List Int) : (keyRootV l).2.length ≤ 32 := by
  unfold keyRootV
  have hr : (root (keyLeaves l)).length = 32 := root_length (ls := keyLeaves l) (by rw [keyLeaves_length]; omega)
  generalize root (keyLeaves l) = q at hr ⊢
  by_cases h : l.length > 200
  · rw [if_pos h]; exact Nat.zero_le _
  · rw [if_neg h]; exact Nat.le_of_eq hr
end Go.Proofs.Ytecndndpjekjbaa.S
namespace Go.Proofs.Ytecndndpjekjbaa.Pure
open Go.RowKit Go.Proofs.Ytecndndpjekjbaa.S Go.Proofs.YtecndndpjekjbaaW.PrintWords Go.Proofs.YtecndndpjekjbaaW.PrintLast Go.Proofs.YtecndndpjekjbaaW.PrintMore Go.Proofs.Ytecndndpjekjbaa.Base Go.Proofs.Ytecndndpjekjbaa.Sha

theorem FnExactKeyRoot : laws_FnExactKeyRoot.Pure := by
  intro l0 _ hsz hwf
  refine Ev.rounds ?_
  unfold laws_FnExactKeyRoot.f
  by_cases hc : (l0.length : Int) > 1048576
  · exact ev_pos hc (ev_now rfl)
  refine ev_neg hc ?_
  have hy := byt_of_wf hwf
  have hs := spec_KeyRoot_ev hy (by omega)
  have hi := impl_KeyRoot_ev hy (by omega)
  have hn := keyRootV_length l0
  generalize keyRootV l0 = r at hs hi hn
  have ht := toByteS_ev l0 (by omega)
  have he := eqBytesResult_ev r.1 r.2 (by omega)
  have hb := eqByteS_ev l0 (by omega)
  have hk := markByteS_ev l0 1 (by omega) (by omega)
  have hm := markBytesResult_ev r.1 r.2 (by omega)
  have hh := heldBytesResult_ev r.1 r.2.length (by omega)
  refine ev_bind ht (ev_bind hs (ev_bind ht (ev_bind hi (ev_bind he (ev_pos rfl (ev_bind ht (ev_bind hb (ev_pos rfl (ev_bind hk (ev_neg (by show ¬ (1 + (l0.length : Int)) < 0; omega) (ev_bind he ?_)))))))))))
  refine ev_step (fun k => laws_FnExactKeyRoot.j0.eq_2 _ _ _ _ _ _ _) (ev_neg (by decide) (ev_bind hm (ev_bind hh (ev_neg (by omega) (ev_pos rfl ?_)))))
  exact ev_bind ht (ev_bind hi (ev_bind he (ev_pos rfl (ev_bind hh (ev_neg (by omega) (ev_pos rfl (ev_now rfl)))))))
end Go.Proofs.Ytecndndpjekjbaa.Pure
