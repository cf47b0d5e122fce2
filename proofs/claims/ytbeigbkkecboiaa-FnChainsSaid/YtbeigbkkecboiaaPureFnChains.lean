import Derived.Test.YtbeigbkkecboiaaShaI
import Derived.Test.YtbeigbkkecboiaaPStr
import Derived.Test.YtbeigbkkecboiaaSxSpecTaggedDigest
import Derived.Test.YtbeigbkkecboiaaSxImplTaggedY
import Derived.Test.YtbeigbkkecboiaaSxImplDigestY
import Derived.Test.YtbeigbkkecboiaaSxSpecDigest
import Derived.Test.YtbeigbkkecboiaaSxImplClimbY
import Derived.Test.YtbeigbkkecboiaaSxSpecL4StepY
import Derived.Test.YtbeigbkkecboiaaSxSlicesCloneByteByte
import Derived.Test.YtbeigbkkecboiaaBase
import Derived.Test.YtbeigbkkecboiaaSxImplSmall
import Derived.Test.YtbeigbkkecboiaaSxSpecL1
import Derived.Test.YtbeigbkkecboiaaSxImplChainStep
import Derived.Test.YtbeigbkkecboiaaSxSpecChainStep
import Derived.Test.YtbeigbkkecboiaaSxSpecL1
import Derived.Test.YtbeigbkkecboiaaSxLawsFnChains
import Derived.Test.YtbeigbkkecboiaaSxLawsHelp
import Derived.Test.YtbeigbkkecboiaaSxSpecDrawChainStep
/- The digest and the tagged digest, as plain functions: what the program's and the reference's come to. For all bytes that fit. -/
set_option linter.unusedVariables false
namespace Go.Proofs.Ytbeigbkkecboiaa.S
open Go.RowKit Go.Proofs.YtbeigbkkecboiaaW.PrintWords Go.Proofs.YtbeigbkkecboiaaW.PrintLast Go.Proofs.YtbeigbkkecboiaaW.PrintMore Go.Proofs.Ytbeigbkkecboiaa.Base Go.Proofs.Ytbeigbkkecboiaa.Sha

theorem spec_dig {l : List Int} (hl : Byt l) (hn : l.length < 70000000000000) : spec_Digest.f l = some (sha l) := by
  unfold spec_Digest.f
  refine if_pos ?_
  unfold spec_Digest.ok
  rw [Bool.and_eq_true]
  exact ⟨List.all_eq_true.2 (fun x hx => decide_eq_true (hl x hx)), decide_eq_true hn⟩
theorem impl_dig {ls : List (List Int)} (hl : Byt ls.flatten) (hn : ls.flatten.length < 70000000000000) : impl_digest.f ls = some (sha ls.flatten) := by
  unfold impl_digest.f
  refine if_pos ?_
  unfold impl_digest.ok
  rw [Bool.and_eq_true]
  exact ⟨List.all_eq_true.2 (fun x hx => decide_eq_true (hl x hx)), decide_eq_true hn⟩
/-- The tagged digest. -/
def tg (t : ByteArray) (l : List Int) : List Int := sha ([(t.size : Int) % 256] ++ bytesOf t ++ l)
theorem tg_length (t : ByteArray) (l : List Int) : (tg t l).length = 32 := sha_length _
theorem tg_byt (t : ByteArray) (l : List Int) : Byt (tg t l) := sha_byt _
theorem tg_byt0 {t : ByteArray} {l : List Int} (hl : Byt l) : Byt ([(t.size : Int) % 256] ++ bytesOf t ++ l) :=
  byt_append (byt_append (byt_one (by omega) (by omega)) (bytesOf_byt t)) hl
theorem spec_tag {t : ByteArray} {l : List Int} (hl : Byt l) (hn : t.size + l.length < 60000000000000) : spec_TaggedDigest.f t l = some (tg t l) := by
  unfold spec_TaggedDigest.f
  refine spec_dig (tg_byt0 hl) ?_
  rw [List.length_append, List.length_append, bytesOf_length, List.length_singleton]
  omega
theorem impl_tag {t : ByteArray} {ls : List (List Int)} (hl : Byt ls.flatten) (hn : t.size + ls.flatten.length < 60000000000000) (hc : ls.length < 5000000000000) : impl_tagged.f t ls = some (tg t ls.flatten) := by
  unfold impl_tagged.f
  rw [if_pos (by omega)]
  have e : ([[(t.size : Int) % 256], bytesOf t] ++ ls).flatten = [(t.size : Int) % 256] ++ bytesOf t ++ ls.flatten := by simp
  rw [impl_dig (by rw [e]; exact tg_byt0 hl) (by rw [e, List.length_append, List.length_append, bytesOf_length, List.length_singleton]; omega), e]
  rfl
theorem impl_tag1 {t : ByteArray} {l : List Int} (hl : Byt l) (hn : t.size + l.length < 60000000000000) : impl_tagged.f t [l] = some (tg t l) := by
  have e : [l].flatten = l := by simp
  have h := impl_tag (t := t) (ls := [l]) (by rw [e]; exact hl) (by rw [e]; exact hn) (by simp)
  rw [e] at h
  exact h
theorem impl_tag2 {t : ByteArray} {l m : List Int} (hl : Byt l) (hm : Byt m) (hn : t.size + l.length + m.length < 60000000000000) : impl_tagged.f t [l, m] = some (tg t (l ++ m)) := by
  have e : [l, m].flatten = l ++ m := by simp
  have h := impl_tag (t := t) (ls := [l, m]) (by rw [e]; exact byt_append hl hm) (by rw [e, List.length_append]; omega) (by simp)
  rw [e] at h
  exact h
end Go.Proofs.Ytbeigbkkecboiaa.S

/- Steps of a chain: what the program's climb and the reference's come to. For all bytes that fit. -/
set_option linter.unusedVariables false
namespace Go.Proofs.Ytbeigbkkecboiaa.S
open Go.RowKit Go.Proofs.YtbeigbkkecboiaaW.PrintWords Go.Proofs.YtbeigbkkecboiaaW.PrintLast Go.Proofs.YtbeigbkkecboiaaW.PrintMore Go.Proofs.Ytbeigbkkecboiaa.Base Go.Proofs.Ytbeigbkkecboiaa.Sha

def stepsV : Nat → List Int → List Int
  | 0, l => l
  | n + 1, l => stepsV n (tg (⟨#[115, 116, 101, 112]⟩ : ByteArray) l)
theorem stepsV_byt : ∀ (n : Nat) {l : List Int}, Byt l → Byt (stepsV n l)
  | 0, _, h => h
  | n + 1, _, _ => stepsV_byt n (tg_byt _ _)
theorem stepsV_length : ∀ (n : Nat) (l : List Int), n = 0 ∧ (stepsV n l).length = l.length ∨ n ≠ 0 ∧ (stepsV n l).length = 32
  | 0, _ => .inl ⟨rfl, rfl⟩
  | n + 1, l => .inr ⟨by omega, by
    rcases stepsV_length n (tg (⟨#[115, 116, 101, 112]⟩ : ByteArray) l) with h | h
    · show (stepsV n _).length = 32
      rw [h.2, tg_length]
    · exact h.2⟩
theorem climb_l0 (n : Int) (h0 : 0 ≤ n) (h1 : n ≤ 4294967296) : ∀ (d : Nat) (i : Int) (x : List Int), i + d = n → 0 ≤ i → Byt x → x.length ≤ 4294967296 → Ev (fun k => impl_climb.l0 k x n i) (stepsV d x) := by
  intro d
  have h4 : (⟨#[115, 116, 101, 112]⟩ : ByteArray).size = 4 := rfl
  induction d with
  | zero =>
    intro i x hi _ _ _
    exact ev_step (fun k => impl_climb.l0.eq_2 _ _ _ _) (ev_neg (by omega) (ev_now rfl))
  | succ d ih =>
    intro i x hi hi0 hx hl
    refine ev_step (fun k => impl_climb.l0.eq_2 _ _ _ _) (ev_pos (by omega) (ev_bind (ev_now (impl_tag1 hx (by omega))) ?_))
    rw [w64 (by omega) (by omega)]
    exact ih (i + 1) _ (by omega) (by omega) (tg_byt _ _) (by rw [tg_length]; omega)
theorem climb_ev {l : List Int} (hl : Byt l) (hn : l.length ≤ 4294967296) (n : Nat) (h1 : n ≤ 4294967296) : Ev (fun k => impl_climb.f k l (n : Int)) (stepsV n l) := by
  unfold impl_climb.f
  refine ev_bind (ev_now (a := slices_Clone_byte_byte.f l) (r := l) (by unfold slices_Clone_byte_byte.f; rw [if_pos (by omega)])) ?_
  exact climb_l0 n (by omega) (by omega) n 0 l (by omega) (by omega) hl hn
theorem l4Step_ev : ∀ (n : Nat) {l : List Int}, Byt l → l.length ≤ 4294967296 → n ≤ 4294967296 → Ev (fun k => spec_l4Step.f k l (n : Int)) (stepsV n l) := by
  intro n
  have h4 : (⟨#[115, 116, 101, 112]⟩ : ByteArray).size = 4 := rfl
  induction n with
  | zero =>
    intro l hl hn _
    unfold spec_l4Step.f
    refine ev_step (fun k => spec_l4Step.l0.eq_2 _ _ _) (ev_neg (by omega) (ev_now ?_))
    simp only [Option.bind_some, List.length_nil, List.nil_append]
    rw [if_pos (by omega)]
    rfl
  | succ n ih =>
    intro l hl hn h1
    unfold spec_l4Step.f
    refine ev_step (fun k => spec_l4Step.l0.eq_2 _ _ _) (ev_pos (by omega) (ev_bind (ev_now (spec_tag hl (by omega))) ?_))
    rw [w64 (by omega) (by omega), show ((n + 1 : Nat) : Int) - 1 = (n : Int) by omega]
    exact ih (tg_byt _ _) (by rw [tg_length]; omega) (by omega)
end Go.Proofs.Ytbeigbkkecboiaa.S

/- Is a number in its bounds: the program's and the reference's answer. -/
set_option linter.unusedVariables false
namespace Go.Proofs.Ytbeigbkkecboiaa.S
open Go.RowKit Go.Proofs.YtbeigbkkecboiaaW.PrintWords Go.Proofs.YtbeigbkkecboiaaW.PrintLast Go.Proofs.YtbeigbkkecboiaaW.PrintMore Go.Proofs.Ytbeigbkkecboiaa.Base

theorem in_eq (a b c : Int) : impl_in.f a b c = some (decide (b ≤ a ∧ a ≤ c)) := by
  unfold impl_in.f
  by_cases h : b ≤ a <;> simp [h]
theorem l1In_eq (a b c : Int) : spec_l1In.f a b c = some (decide (b ≤ a ∧ a ≤ c)) := by
  unfold spec_l1In.f
  by_cases h : b ≤ a <;> simp [h]
end Go.Proofs.Ytbeigbkkecboiaa.S

/- ChainStep: what the program's and the reference's come to. For all bytes that fit. -/
set_option linter.unusedVariables false
namespace Go.Proofs.Ytbeigbkkecboiaa.S
open Go.RowKit Go.Proofs.YtbeigbkkecboiaaW.PrintWords Go.Proofs.YtbeigbkkecboiaaW.PrintLast Go.Proofs.YtbeigbkkecboiaaW.PrintMore Go.Proofs.Ytbeigbkkecboiaa.Base Go.Proofs.Ytbeigbkkecboiaa.Sha

def chainV (l : List Int) (a : Int) : Int × List Int := if 0 ≤ a ∧ a ≤ 3 then (if l.length > 200 then (2, []) else (0, stepsV a.toNat l)) else (3, [])
theorem impl_ChainStep_ev {l : List Int} (hl : Byt l) (a : Int) : Ev (fun k => impl_ChainStep.f k l a) (chainV l a) := by
  unfold impl_ChainStep.f chainV
  refine ev_bind (ev_now (in_eq _ _ _)) ?_
  by_cases h : 0 ≤ a ∧ a ≤ 3
  · rw [if_pos h]
    refine ev_pos (decide_eq_true h) ?_
    by_cases g : l.length > 200
    · rw [if_pos g]; exact ev_pos (by omega) (ev_now rfl)
    · rw [if_neg g]
      have := climb_ev hl (by omega) a.toNat (by omega)
      rw [Int.toNat_of_nonneg h.1] at this
      exact ev_neg (by omega) (ev_bind this (ev_now rfl))
  · rw [if_neg h]; exact ev_neg (by simpa using h) (ev_now rfl)
theorem spec_ChainStep_ev {l : List Int} (hl : Byt l) (a : Int) : Ev (fun k => spec_ChainStep.f k l a) (chainV l a) := by
  unfold spec_ChainStep.f chainV
  refine ev_bind (ev_now (l1In_eq _ _ _)) ?_
  by_cases h : 0 ≤ a ∧ a ≤ 3
  · rw [if_pos h]
    refine ev_pos (decide_eq_true h) ?_
    by_cases g : l.length > 200
    · rw [if_pos g]; exact ev_pos (by omega) (ev_now rfl)
    · rw [if_neg g]
      have := l4Step_ev a.toNat hl (by omega) (by omega)
      rw [Int.toNat_of_nonneg h.1] at this
      exact ev_neg (by omega) (ev_bind this (ev_now rfl))
  · rw [if_neg h]; exact ev_neg (by simpa using h) (ev_now rfl)
theorem chainV_length (l : List Int) (a : Int) : (chainV l a).2.length ≤ 200 := by
  unfold chainV
  split
  · split
    · simp
    · rcases stepsV_length a.toNat l with h | h <;> simp only [h.2] <;> omega
  · simp
end Go.Proofs.Ytbeigbkkecboiaa.S

/- What the reference's draws come to, as far as the laws need it: each ends, in bounds. For every code that fits. -/
set_option linter.unusedVariables false
namespace Go.Proofs.Ytbeigbkkecboiaa.S
open Go.RowKit Go.Proofs.YtbeigbkkecboiaaW.PrintWords Go.Proofs.YtbeigbkkecboiaaW.PrintLast Go.Proofs.YtbeigbkkecboiaaW.PrintMore Go.Proofs.Ytbeigbkkecboiaa.Base

theorem tmod_range {a n : Int} (h0 : 0 ≤ a) (h1 : 1 ≤ n) : 0 ≤ Int.tmod a n ∧ Int.tmod a n < n := by
  rw [Int.tmod_eq_emod_of_nonneg h0]
  exact ⟨Int.emod_nonneg _ (by omega), Int.emod_lt_of_pos _ (by omega)⟩
theorem next_ok {c : List Int} (hc : Byt c) {at_ : Int} (h0 : 0 ≤ at_) (h1 : at_ ≤ 1099511627776) (n : Int) : ∃ v, spec_l1Next.f c at_ n = some (v, at_ + 1) ∧ 0 ≤ v ∧ (v < n ∨ v = 0) := by
  unfold spec_l1Next.f
  rw [w64 (n := at_ + 1) (by omega) (by omega), w64 (n := at_ + 1 - 1) (by omega) (by omega), show at_ + 1 - 1 = at_ by omega]
  by_cases hn : n < 1
  · exact ⟨0, by rw [if_pos hn], by omega, .inr rfl⟩
  rw [if_neg hn]
  by_cases hl : (c.length : Int) = 0
  · rw [if_pos hl, if_neg (by omega), w64 (n := at_ * 7) (by omega) (by omega)]
    have := tmod_range (a := at_ * 7) (n := n) (by omega) (by omega)
    exact ⟨_, rfl, this.1, .inl this.2⟩
  rw [if_neg hl]
  have hp := tmod_range (a := at_) (n := (c.length : Int)) h0 (by omega)
  have hp2 := tmod_range (a := at_ + 1) (n := (c.length : Int)) (by omega) (by omega)
  have hq : 0 ≤ Int.tdiv at_ (c.length : Int) ∧ Int.tdiv at_ (c.length : Int) ≤ at_ := by
    rw [Int.tdiv_eq_ediv_of_nonneg h0]
    exact ⟨Int.ediv_nonneg h0 (by omega), Int.ediv_le_self _ h0⟩
  rw [if_pos hp.1, if_pos hp.2]
  have hb1 := byt_rd hc (Int.tmod at_ (c.length : Int))
  generalize rd c (Int.tmod at_ (c.length : Int)) = b1 at *
  generalize Int.tdiv at_ (c.length : Int) = q at *
  rw [w64 (n := b1) (by omega) (by omega), w64 (n := q) (by omega) (by omega), w64 (n := q * 37) (by omega) (by omega), w64 (n := b1 + q * 37) (by omega) (by omega)]
  by_cases hg : n > 200
  · rw [if_pos hg, w64 (n := at_ + 1) (by omega) (by omega), if_pos hp2.1, if_pos hp2.2, if_neg (by omega)]
    have hb2 := byt_rd hc (Int.tmod (at_ + 1) (c.length : Int))
    generalize rd c (Int.tmod (at_ + 1) (c.length : Int)) = b2 at *
    rw [w64 (n := b2) (by omega) (by omega), w64 (n := b2 * 13) (by omega) (by omega), w64 (n := (b1 + q * 37) * 251) (by omega) (by omega), w64 (n := (b1 + q * 37) * 251 + b2 * 13) (by omega) (by omega), w64 (n := (b1 + q * 37) * 251 + b2 * 13 + at_) (by omega) (by omega)]
    have := tmod_range (a := (b1 + q * 37) * 251 + b2 * 13 + at_) (n := n) (by omega) (by omega)
    exact ⟨_, rfl, this.1, .inl this.2⟩
  · rw [if_neg hg, if_neg (by omega)]
    have := tmod_range (a := b1 + q * 37) (n := n) (by omega) (by omega)
    exact ⟨_, rfl, this.1, .inl this.2⟩
theorem some_l0 {c : List Int} (hc : Byt c) : ∀ (n : Nat) (x : List Int) (at_ : Int), 0 ≤ at_ → at_ + n ≤ 1099511627776 → Byt x → x.length + n ≤ 100000000 → ∃ r, Ev (fun k => spec_l1Some.l0 k (n : Int) x c at_) (r, at_ + n) ∧ Byt r ∧ r.length = x.length + n := by
  intro n
  induction n with
  | zero =>
    intro x at_ h0 h1 hx hl
    exact ⟨x, ev_step (fun k => spec_l1Some.l0.eq_2 _ _ _ _ _) (ev_neg (by omega) (ev_now (by simp))), hx, by omega⟩
  | succ n ih =>
    intro x at_ h0 h1 hx hl
    obtain ⟨v, hv, hv0, _⟩ := next_ok hc h0 (by omega) 256
    obtain ⟨r, hr, hb, hrl⟩ := ih (x ++ [v % 256]) (at_ + 1) (by omega) (by omega) (byt_append hx (byt_one (by omega) (by omega))) (by simp; omega)
    refine ⟨r, ev_step (fun k => spec_l1Some.l0.eq_2 _ _ _ _ _) (ev_pos (by omega) (ev_bind (ev_now hv) (ev_pos (by omega) ?_))), hb, by rw [hrl]; simp; omega⟩
    rw [w64 (by omega) (by omega), show ((n + 1 : Nat) : Int) - 1 = (n : Int) by omega]
    rw [show at_ + ((n + 1 : Nat) : Int) = at_ + 1 + (n : Int) by omega]
    exact hr
theorem some_ok {c : List Int} (hc : Byt c) (n at_ : Int) (h0 : 0 ≤ at_) (h1 : at_ ≤ 1000000000) (hn : n ≤ 100000) : ∃ r a, Ev (fun k => spec_l1Some.f k c at_ n) (r, a) ∧ Byt r ∧ r.length = n.toNat ∧ at_ ≤ a ∧ a ≤ at_ + 100000 := by
  by_cases h : 0 ≤ n
  · obtain ⟨r, hr, hb, hl⟩ := some_l0 hc n.toNat [] at_ h0 (by omega) byt_nil (by simp; omega)
    refine ⟨r, at_ + n.toNat, ?_, hb, by rw [hl]; simp, by omega, by omega⟩
    unfold spec_l1Some.f
    rw [Int.toNat_of_nonneg h] at hr
    rw [Int.toNat_of_nonneg h]
    exact hr
  · refine ⟨[], at_, ?_, byt_nil, by simp; omega, by omega, by omega⟩
    unfold spec_l1Some.f
    exact ev_step (fun k => spec_l1Some.l0.eq_2 _ _ _ _ _) (ev_neg (by omega) (ev_now rfl))
theorem pick_ok {c : List Int} (hc : Byt c) {at_ : Int} (h0 : 0 ≤ at_) (h1 : at_ ≤ 1099511627776) (L : List Int) (hL : 0 < L.length) : ∃ v, spec_l1Pick.f c at_ L = some (v, at_ + 1) ∧ v ∈ L := by
  obtain ⟨v, hv, hv0, hv1⟩ := next_ok hc h0 h1 (L.length : Int)
  unfold spec_l1Pick.f
  rw [hv, Option.bind_some, if_pos hv0, if_pos (by show v < _; omega)]
  refine ⟨rd L v, rfl, ?_⟩
  obtain ⟨j, rfl⟩ := Int.eq_ofNat_of_zero_le hv0
  rw [rd_nat L j (by omega)]
  exact List.getElem_mem _
end Go.Proofs.Ytbeigbkkecboiaa.S

/- The law FnChains answers true: steps that are gone one behind the other are gone at once. No condition. -/
set_option linter.unusedVariables false
namespace Go.Proofs.Ytbeigbkkecboiaa.S
open Go.RowKit Go.Proofs.YtbeigbkkecboiaaW.PrintWords Go.Proofs.YtbeigbkkecboiaaW.PrintLast Go.Proofs.YtbeigbkkecboiaaW.PrintMore Go.Proofs.Ytbeigbkkecboiaa.Base Go.Proofs.Ytbeigbkkecboiaa.Sha

theorem drawChain_ok {c : List Int} (hc : Byt c) : ∃ x s, Ev (fun k => spec_DrawChainStep.f k c) (x, s) ∧ Byt x ∧ x.length ≤ 201 := by
  obtain ⟨v, hv, hm⟩ := pick_ok hc (at_ := 0) (by omega) (by omega) [32, 3, 0, 200, 201] (by decide)
  have hvr : v ≤ 201 := by
    simp only [List.mem_cons, List.not_mem_nil, or_false] at hm
    omega
  obtain ⟨r, a, hr, hb, hl, ha0, ha1⟩ := some_ok hc v (0 + 1) (by omega) (by omega) (by omega)
  obtain ⟨s, hs, _⟩ := pick_ok hc (at_ := a) (by omega) (by omega) [0, 1, 2, 3, 4, -1] (by decide)
  refine ⟨r, s, ?_, hb, by omega⟩
  unfold spec_DrawChainStep.f
  exact ev_bind (ev_now (a := spec_l1Source.f c) (r := (c, 0)) rfl) (ev_bind (ev_now hv) (ev_bind hr (ev_bind (ev_now hs) (ev_now rfl))))
theorem lwBytes_eq (l : List Int) : laws_lwBytes.f l l = some true := by
  unfold laws_lwBytes.f
  simp
theorem chains_l0 (x r : List Int) (n : Int) (hn : n ≤ 3) (c : Int) (hx : n = 0 → r = x) (hr : n ≠ 0 → r.length = 32) : ∀ (d : Nat) (i : Int) (y : List Int), i + d = n → 0 ≤ i → Byt y → y.length ≤ 200 → stepsV d y = r → Ev (fun k => laws_FnChains.l0 k x n y i c r) true := by
  intro d
  induction d with
  | zero =>
    intro i y hi h0 hy hl he
    have e : y = r := he
    subst e
    refine ev_step (fun k => laws_FnChains.l0.eq_2 _ _ _ _ _ _ _) (ev_neg (by omega) (ev_bind (ev_now (lwBytes_eq y)) (ev_pos rfl ?_)))
    by_cases h : n = 0
    · refine ev_pos h ?_
      rw [← hx h]
      exact ev_bind (ev_now (lwBytes_eq y)) (ev_pos rfl (ev_now rfl))
    · refine ev_neg h (ev_now ?_)
      rw [hr h]
      rfl
  | succ d ih =>
    intro i y hi h0 hy hl he
    have e : chainV y 1 = (0, tg (⟨#[115, 116, 101, 112]⟩ : ByteArray) y) := by
      unfold chainV
      rw [if_pos (by omega), if_neg (by omega)]
      rfl
    have h := impl_ChainStep_ev hy 1
    rw [e] at h
    refine ev_step (fun k => laws_FnChains.l0.eq_2 _ _ _ _ _ _ _) (ev_pos (by omega) (ev_bind h ?_))
    rw [w64 (by omega) (by omega)]
    exact ih (i + 1) _ (by omega) (by omega) (tg_byt _ _) (by rw [tg_length]; omega) he
end Go.Proofs.Ytbeigbkkecboiaa.S
namespace Go.Proofs.Ytbeigbkkecboiaa.Pure
open Go.RowKit Go.Proofs.Ytbeigbkkecboiaa.S Go.Proofs.YtbeigbkkecboiaaW.PrintWords Go.Proofs.YtbeigbkkecboiaaW.PrintLast Go.Proofs.YtbeigbkkecboiaaW.PrintMore Go.Proofs.Ytbeigbkkecboiaa.Base Go.Proofs.Ytbeigbkkecboiaa.Sha

theorem FnChains : laws_FnChains.Pure := by
  intro l0 _ hsz hwf
  refine Ev.rounds ?_
  have hy := byt_of_wf hwf
  unfold laws_FnChains.f
  by_cases hc : (l0.length : Int) > 1048576
  · exact ev_bind (ev_now (show laws_lwBig.f l0 = some (decide ((l0.length : Int) > 1048576)) from rfl)) (ev_pos (decide_eq_true hc) (ev_now rfl))
  refine ev_bind (ev_now (show laws_lwBig.f l0 = some (decide ((l0.length : Int) > 1048576)) from rfl)) (ev_neg (by simpa using hc) ?_)
  obtain ⟨x, s, hd, hx, hl⟩ := drawChain_ok hy
  refine ev_bind hd (ev_bind (impl_ChainStep_ev hx s) ?_)
  have hsp := spec_ChainStep_ev hx s
  by_cases h0 : (chainV x s).1 = 0
  · refine ev_pos h0 (ev_bind (ev_now rfl) (ev_pos (by simp; omega) ?_))
    have hh : (0 ≤ s ∧ s ≤ 3) ∧ ¬ x.length > 200 := by
      unfold chainV at h0
      by_cases a : 0 ≤ s ∧ s ≤ 3
      · rw [if_pos a] at h0
        by_cases b : x.length > 200
        · rw [if_pos b] at h0; cases h0
        · exact ⟨a, b⟩
      · rw [if_neg a] at h0; cases h0
    have e : chainV x s = (0, stepsV s.toNat x) := by
      unfold chainV
      rw [if_pos hh.1, if_neg hh.2]
    rw [e]
    refine chains_l0 x (stepsV s.toNat x) s hh.1.2 0 (fun hs => by rw [hs]; rfl) (fun hs => ?_) s.toNat 0 _ (by omega) (by omega) (by rw [List.nil_append]; exact hx) (by rw [List.nil_append]; show x.length ≤ 200; omega) (by rw [List.nil_append])
    rcases stepsV_length s.toNat x with g | g
    · omega
    · exact g.2
  · refine ev_neg h0 (ev_bind hsp (ev_now ?_))
    simp
end Go.Proofs.Ytbeigbkkecboiaa.Pure
