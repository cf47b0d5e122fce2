import Derived.Test.YtbeigbkkecboiaaShaI
import Derived.Test.YtbeigbkkecboiaaPStr
import Derived.Test.YtbeigbkkecboiaaSxSpecTaggedDigest
import Derived.Test.YtbeigbkkecboiaaSxImplTaggedY
import Derived.Test.YtbeigbkkecboiaaSxImplDigestY
import Derived.Test.YtbeigbkkecboiaaSxSpecDigest
import Derived.Test.YtbeigbkkecboiaaBase
import Derived.Test.YtbeigbkkecboiaaSxSpecL1
import Derived.Test.YtbeigbkkecboiaaSxLawsHelp
import Derived.Test.YtbeigbkkecboiaaSxLawsFnDigests
import Derived.Test.YtbeigbkkecboiaaSxLawsHelp
import Derived.Test.YtbeigbkkecboiaaSxSpecDrawDigest
import Derived.Test.YtbeigbkkecboiaaSxSpecDrawMixRound
import Derived.Test.YtbeigbkkecboiaaSxImplMixRound
import Derived.Test.YtbeigbkkecboiaaSxImplDigest
import Derived.Test.YtbeigbkkecboiaaSxImplTaggedDigest
/- The digest and the tagged digest, as plain functions: what the program's and the reference's come to. For all bytes that fit. -/
set_option linter.unusedVariables false
namespace Go.Proofs.Ytbeigbkkecboiaa.S
open Go.RowKit Go.Proofs.YtbeigbkkecboiaaW.PrintWords Go.Proofs.YtbeigbkkecboiaaW.PrintLast Go.Proofs.YtbeigbkkecboiaaW.PrintMore Go.Proofs.Ytbeigbkkecboiaa.Base Go.Proofs.Ytbeigbkkecboiaa.Sha

theorem spec_dig {l : List Int} (hl : Byt l) (hn : l.length < 70000000000000) : spec_Digest.f l = some (sha l) := by
  unfold spec_Digest.f
  refine if_pos ?_
  unfold spec_Digest.ok
  rw [Bool.and_eq_true]
  exact ⟨List.all_eq_true.2 (fun x hx => decide_eq_true (hl x hx)), decide_eq_true hn⟩
theorem impl_dig {ls : List (List Int)} (hl : Byt ls.flatten) (hn : ls.flatten.length < 70000000000000) : impl_digest.f ls = some (sha ls.flatten) := by
  unfold impl_digest.f
  refine if_pos ?_
  unfold impl_digest.ok
  rw [Bool.and_eq_true]
  exact ⟨List.all_eq_true.2 (fun x hx => decide_eq_true (hl x hx)), decide_eq_true hn⟩
/-- The tagged digest. -/
def tg (t : ByteArray) (l : List Int) : List Int := sha ([(t.size : Int) % 256] ++ bytesOf t ++ l)
theorem tg_length (t : ByteArray) (l : List Int) : (tg t l).length = 32 := sha_length _
theorem tg_byt (t : ByteArray) (l : List Int) : Byt (tg t l) := sha_byt _
theorem tg_byt0 {t : ByteArray} {l : List Int} (hl : Byt l) : Byt ([(t.size : Int) % 256] ++ bytesOf t ++ l) :=
  byt_append (byt_append (byt_one (by omega) (by omega)) (bytesOf_byt t)) hl
theorem spec_tag {t : ByteArray} {l : List Int} (hl : Byt l) (hn : t.size + l.length < 60000000000000) : spec_TaggedDigest.f t l = some (tg t l) := by
  unfold spec_TaggedDigest.f
  refine spec_dig (tg_byt0 hl) ?_
  rw [List.length_append, List.length_append, bytesOf_length, List.length_singleton]
  omega
theorem impl_tag {t : ByteArray} {ls : List (List Int)} (hl : Byt ls.flatten) (hn : t.size + ls.flatten.length < 60000000000000) (hc : ls.length < 5000000000000) : impl_tagged.f t ls = some (tg t ls.flatten) := by
  unfold impl_tagged.f
  rw [if_pos (by omega)]
  have e : ([[(t.size : Int) % 256], bytesOf t] ++ ls).flatten = [(t.size : Int) % 256] ++ bytesOf t ++ ls.flatten := by simp
  rw [impl_dig (by rw [e]; exact tg_byt0 hl) (by rw [e, List.length_append, List.length_append, bytesOf_length, List.length_singleton]; omega), e]
  rfl
theorem impl_tag1 {t : ByteArray} {l : List Int} (hl : Byt l) (hn : t.size + l.length < 60000000000000) : impl_tagged.f t [l] = some (tg t l) := by
  have e : [l].flatten = l := by simp
  have h := impl_tag (t := t) (ls := [l]) (by rw [e]; exact hl) (by rw [e]; exact hn) (by simp)
  rw [e] at h
  exact h
theorem impl_tag2 {t : ByteArray} {l m : List Int} (hl : Byt l) (hm : Byt m) (hn : t.size + l.length + m.length < 60000000000000) : impl_tagged.f t [l, m] = some (tg t (l ++ m)) := by
  have e : [l, m].flatten = l ++ m := by simp
  have h := impl_tag (t := t) (ls := [l, m]) (by rw [e]; exact byt_append hl hm) (by rw [e, List.length_append]; omega) (by simp)
  rw [e] at h
  exact h
end Go.Proofs.Ytbeigbkkecboiaa.S

/- What the reference's draws come to, as far as the laws need it: each ends, in bounds. For every code that fits. -/
set_option linter.unusedVariables false
namespace Go.Proofs.Ytbeigbkkecboiaa.S
open Go.RowKit Go.Proofs.YtbeigbkkecboiaaW.PrintWords Go.Proofs.YtbeigbkkecboiaaW.PrintLast Go.Proofs.YtbeigbkkecboiaaW.PrintMore Go.Proofs.Ytbeigbkkecboiaa.Base

theorem tmod_range {a n : Int} (h0 : 0 ≤ a) (h1 : 1 ≤ n) : 0 ≤ Int.tmod a n ∧ Int.tmod a n < n := by
  rw [Int.tmod_eq_emod_of_nonneg h0]
  exact ⟨Int.emod_nonneg _ (by omega), Int.emod_lt_of_pos _ (by omega)⟩
theorem next_ok {c : List Int} (hc : Byt c) {at_ : Int} (h0 : 0 ≤ at_) (h1 : at_ ≤ 1099511627776) (n : Int) : ∃ v, spec_l1Next.f c at_ n = some (v, at_ + 1) ∧ 0 ≤ v ∧ (v < n ∨ v = 0) := by
  unfold spec_l1Next.f
  rw [w64 (n := at_ + 1) (by omega) (by omega), w64 (n := at_ + 1 - 1) (by omega) (by omega), show at_ + 1 - 1 = at_ by omega]
  by_cases hn : n < 1
  · exact ⟨0, by rw [if_pos hn], by omega, .inr rfl⟩
  rw [if_neg hn]
  by_cases hl : (c.length : Int) = 0
  · rw [if_pos hl, if_neg (by omega), w64 (n := at_ * 7) (by omega) (by omega)]
    have := tmod_range (a := at_ * 7) (n := n) (by omega) (by omega)
    exact ⟨_, rfl, this.1, .inl this.2⟩
  rw [if_neg hl]
  have hp := tmod_range (a := at_) (n := (c.length : Int)) h0 (by omega)
  have hp2 := tmod_range (a := at_ + 1) (n := (c.length : Int)) (by omega) (by omega)
  have hq : 0 ≤ Int.tdiv at_ (c.length : Int) ∧ Int.tdiv at_ (c.length : Int) ≤ at_ := by
    rw [Int.tdiv_eq_ediv_of_nonneg h0]
    exact ⟨Int.ediv_nonneg h0 (by omega), Int.ediv_le_self _ h0⟩
  rw [if_pos hp.1, if_pos hp.2]
  have hb1 := byt_rd hc (Int.tmod at_ (c.length : Int))
  generalize rd c (Int.tmod at_ (c.length : Int)) = b1 at *
  generalize Int.tdiv at_ (c.length : Int) = q at *
  rw [w64 (n := b1) (by omega) (by omega), w64 (n := q) (by omega) (by omega), w64 (n := q * 37) (by omega) (by omega), w64 (n := b1 + q * 37) (by omega) (by omega)]
  by_cases hg : n > 200
  · rw [if_pos hg, w64 (n := at_ + 1) (by omega) (by omega), if_pos hp2.1, if_pos hp2.2, if_neg (by omega)]
    have hb2 := byt_rd hc (Int.tmod (at_ + 1) (c.length : Int))
    generalize rd c (Int.tmod (at_ + 1) (c.length : Int)) = b2 at *
    rw [w64 (n := b2) (by omega) (by omega), w64 (n := b2 * 13) (by omega) (by omega), w64 (n := (b1 + q * 37) * 251) (by omega) (by omega), w64 (n := (b1 + q * 37) * 251 + b2 * 13) (by omega) (by omega), w64 (n := (b1 + q * 37) * 251 + b2 * 13 + at_) (by omega) (by omega)]
    have := tmod_range (a := (b1 + q * 37) * 251 + b2 * 13 + at_) (n := n) (by omega) (by omega)
    exact ⟨_, rfl, this.1, .inl this.2⟩
  · rw [if_neg hg, if_neg (by omega)]
    have := tmod_range (a := b1 + q * 37) (n := n) (by omega) (by omega)
    exact ⟨_, rfl, this.1, .inl this.2⟩
theorem some_l0 {c : List Int} (hc : Byt c) : ∀ (n : Nat) (x : List Int) (at_ : Int), 0 ≤ at_ → at_ + n ≤ 1099511627776 → Byt x → x.length + n ≤ 100000000 → ∃ r, Ev (fun k => spec_l1Some.l0 k (n : Int) x c at_) (r, at_ + n) ∧ Byt r ∧ r.length = x.length + n := by
  intro n
  induction n with
  | zero =>
    intro x at_ h0 h1 hx hl
    exact ⟨x, ev_step (fun k => spec_l1Some.l0.eq_2 _ _ _ _ _) (ev_neg (by omega) (ev_now (by simp))), hx, by omega⟩
  | succ n ih =>
    intro x at_ h0 h1 hx hl
    obtain ⟨v, hv, hv0, _⟩ := next_ok hc h0 (by omega) 256
    obtain ⟨r, hr, hb, hrl⟩ := ih (x ++ [v % 256]) (at_ + 1) (by omega) (by omega) (byt_append hx (byt_one (by omega) (by omega))) (by simp; omega)
    refine ⟨r, ev_step (fun k => spec_l1Some.l0.eq_2 _ _ _ _ _) (ev_pos (by omega) (ev_bind (ev_now hv) (ev_pos (by omega) ?_))), hb, by rw [hrl]; simp; omega⟩
    rw [w64 (by omega) (by omega), show ((n + 1 : Nat) : Int) - 1 = (n : Int) by omega]
    rw [show at_ + ((n + 1 : Nat) : Int) = at_ + 1 + (n : Int) by omega]
    exact hr
theorem some_ok {c : List Int} (hc : Byt c) (n at_ : Int) (h0 : 0 ≤ at_) (h1 : at_ ≤ 1000000000) (hn : n ≤ 100000) : ∃ r a, Ev (fun k => spec_l1Some.f k c at_ n) (r, a) ∧ Byt r ∧ r.length = n.toNat ∧ at_ ≤ a ∧ a ≤ at_ + 100000 := by
  by_cases h : 0 ≤ n
  · obtain ⟨r, hr, hb, hl⟩ := some_l0 hc n.toNat [] at_ h0 (by omega) byt_nil (by simp; omega)
    refine ⟨r, at_ + n.toNat, ?_, hb, by rw [hl]; simp, by omega, by omega⟩
    unfold spec_l1Some.f
    rw [Int.toNat_of_nonneg h] at hr
    rw [Int.toNat_of_nonneg h]
    exact hr
  · refine ⟨[], at_, ?_, byt_nil, by simp; omega, by omega, by omega⟩
    unfold spec_l1Some.f
    exact ev_step (fun k => spec_l1Some.l0.eq_2 _ _ _ _ _) (ev_neg (by omega) (ev_now rfl))
theorem pick_ok {c : List Int} (hc : Byt c) {at_ : Int} (h0 : 0 ≤ at_) (h1 : at_ ≤ 1099511627776) (L : List Int) (hL : 0 < L.length) : ∃ v, spec_l1Pick.f c at_ L = some (v, at_ + 1) ∧ v ∈ L := by
  obtain ⟨v, hv, hv0, hv1⟩ := next_ok hc h0 h1 (L.length : Int)
  unfold spec_l1Pick.f
  rw [hv, Option.bind_some, if_pos hv0, if_pos (by show v < _; omega)]
  refine ⟨rd L v, rfl, ?_⟩
  obtain ⟨j, rfl⟩ := Int.eq_ofNat_of_zero_le hv0
  rw [rd_nat L j (by omega)]
  exact List.getElem_mem _
end Go.Proofs.Ytbeigbkkecboiaa.S

/- What the laws' own helpers on slices of numbers come to: toInt64S copies, eqInt64S compares, markInt64S and heldInt64S count alike. For every slice that fits memory. -/
set_option linter.unusedVariables false
namespace Go.Proofs.Ytbeigbkkecboiaa.S
open Go.RowKit Go.Proofs.YtbeigbkkecboiaaW.PrintWords Go.Proofs.YtbeigbkkecboiaaW.PrintLast Go.Proofs.YtbeigbkkecboiaaW.PrintMore Go.Proofs.Ytbeigbkkecboiaa.Base

theorem toInt64S_l0 (l : List Int) (hl : l.length ≤ 35184372088832) : ∀ (d : Nat) (x : List Int) (i : Nat), i + d = l.length → x.length = l.length → (∀ j, j < i → x[j]? = l[j]?) → Ev (fun k => laws_toInt64S.l0 k l x (i : Int)) l := by
  intro d
  induction d with
  | zero =>
    intro x i hi hx hj
    refine ev_step (fun k => laws_toInt64S.l0.eq_2 _ _ _ _) ?_
    refine ev_neg (by omega) ?_
    rw [fill_all hx (fun j h => hj j (by omega))]
    exact ev_now rfl
  | succ d ih =>
    intro x i hi hx hj
    refine ev_step (fun k => laws_toInt64S.l0.eq_2 _ _ _ _) ?_
    refine ev_pos (by omega) ?_
    refine ev_pos (by omega) ?_
    refine ev_pos (by omega) ?_
    rw [w64s (by omega), Int.toNat_natCast]
    exact ih _ (i + 1) (by omega) (by rw [List.length_set]; exact hx) (fill_step (by omega) hx hj)
theorem toInt64S_ev (l : List Int) (hl : l.length ≤ 35184372088832) : Ev (fun k => laws_toInt64S.f k l) l := by
  unfold laws_toInt64S.f
  refine ev_pos (by omega) ?_
  refine ev_pos (by omega) ?_
  exact toInt64S_l0 l hl l.length _ 0 (by omega) (by simp) (fun j h => by omega)
theorem eqInt64S_l0 (l : List Int) (hl : l.length ≤ 35184372088832) : ∀ (d i : Nat), i + d = l.length → Ev (fun k => laws_eqInt64S.l0 k l l (i : Int)) true := by
  intro d
  induction d with
  | zero =>
    intro i hi
    refine ev_step (fun k => laws_eqInt64S.l0.eq_2 _ _ _ _) ?_
    refine ev_neg (by omega) ?_
    exact ev_now rfl
  | succ d ih =>
    intro i hi
    refine ev_step (fun k => laws_eqInt64S.l0.eq_2 _ _ _ _) ?_
    refine ev_pos (by omega) ?_
    refine ev_pos (by omega) ?_
    refine ev_pos (by omega) ?_
    refine ev_pos rfl ?_
    rw [w64s (by omega)]
    exact ih (i + 1) (by omega)
theorem eqInt64S_ev (l : List Int) (hl : l.length ≤ 35184372088832) : Ev (fun k => laws_eqInt64S.f k l l) true := by
  unfold laws_eqInt64S.f
  refine ev_pos rfl ?_
  exact eqInt64S_l0 l hl l.length 0 (by omega)
end Go.Proofs.Ytbeigbkkecboiaa.S

/- The law FnDigests answers true: a digest has 32 bytes, a round takes word and key together. No condition. -/
set_option linter.unusedVariables false
namespace Go.Proofs.Ytbeigbkkecboiaa.S
open Go.RowKit Go.Proofs.YtbeigbkkecboiaaW.PrintWords Go.Proofs.YtbeigbkkecboiaaW.PrintLast Go.Proofs.YtbeigbkkecboiaaW.PrintMore Go.Proofs.Ytbeigbkkecboiaa.Base Go.Proofs.Ytbeigbkkecboiaa.Sha

theorem mixN_add (s : List Nat) (w k : Nat) : mixN s w k = mixN s ((w + k) % 4294967296) 0 := by
  match s with
  | [a, b, c, d, e, f, g, h] =>
    have e1 : t1N e f g h w k = t1N e f g h ((w + k) % 4294967296) 0 := by
      unfold t1N
      omega
    simp only [mixN, e1]
  | [] => rfl
  | [_] => rfl
  | [_, _] => rfl
  | [_, _, _] => rfl
  | [_, _, _, _] => rfl
  | [_, _, _, _, _] => rfl
  | [_, _, _, _, _, _] => rfl
  | [_, _, _, _, _, _, _] => rfl
  | _ :: _ :: _ :: _ :: _ :: _ :: _ :: _ :: _ :: _ => rfl
theorem mixV_add (l : List Int) (a b : Int) : mixV l a b = mixV l (a + b) 0 := by
  unfold mixV
  rw [mixN_add (l.map m32) (m32 a) (m32 b), mixN_add (l.map m32) (m32 (a + b)) (m32 0)]
  congr 2
  unfold m32
  omega
theorem lwNums_l0 (l : List Int) (hl : l.length ≤ 1000000) : ∀ (d i : Nat), i + d = l.length → Ev (fun k => laws_lwNums.l0 k l l (i : Int)) true := by
  intro d
  induction d with
  | zero => intro i h; exact ev_step (fun k => laws_lwNums.l0.eq_2 _ _ _ _) (ev_neg (by omega) (ev_now rfl))
  | succ d ih =>
    intro i h
    refine ev_step (fun k => laws_lwNums.l0.eq_2 _ _ _ _) (ev_pos (by omega) (ev_pos (by omega) (ev_pos (by omega) (ev_pos rfl ?_))))
    rw [w64s (by omega)]
    exact ih (i + 1) (by omega)
theorem lwNums_ev (l : List Int) (hl : l.length ≤ 1000000) : Ev (fun k => laws_lwNums.f k l l) true := by
  unfold laws_lwNums.f
  exact ev_pos rfl (lwNums_l0 l hl l.length 0 (by omega))
theorem lwBytes_eq2 (l : List Int) : laws_lwBytes.f l l = some true := by
  unfold laws_lwBytes.f
  simp
theorem drawDigest_ok {c : List Int} (hc : Byt c) : ∃ x, Ev (fun k => spec_DrawDigest.f k c) x ∧ Byt x ∧ x.length ≤ 200 := by
  obtain ⟨v1, hv1, h10, h11⟩ := next_ok hc (at_ := 0) (by omega) (by omega) 20
  obtain ⟨v2, hv2, h20, h21⟩ := next_ok hc (at_ := 0 + 1) (by omega) (by omega) 200
  obtain ⟨v, hv, hm⟩ := pick_ok hc (at_ := 0 + 1 + 1) (by omega) (by omega) [v1, 0, 3, 55, 56, 63, 64, 65, 119, 120, v2] (by simp)
  have hvr : v ≤ 200 := by
    simp only [List.mem_cons, List.not_mem_nil, or_false] at hm
    omega
  obtain ⟨r, a, hr, hb, hl, ha0, ha1⟩ := some_ok hc v (0 + 1 + 1 + 1) (by omega) (by omega) (by omega)
  refine ⟨r, ?_, hb, by omega⟩
  unfold spec_DrawDigest.f
  exact ev_bind (ev_now (a := spec_l1Source.f c) (r := (c, 0)) rfl) (ev_bind (ev_now hv1) (ev_bind (ev_now hv2) (ev_bind (ev_now hv) (ev_bind hr (ev_now rfl)))))
theorem drawMix_l0 {c : List Int} (hc : Byt c) : ∀ (n : Nat) (x : List Int) (at_ : Int), 0 ≤ at_ → at_ + 3 * n ≤ 1000000000 → x.length + n ≤ 100 → ∃ r wd ky, Ev (fun k => spec_DrawMixRound.l0 k x (n : Int) c at_) (r, wd, ky) ∧ r.length = x.length + n ∧ (-9223372036854775808 ≤ wd ∧ wd ≤ 9223372036854775807) ∧ (-9223372036854775808 ≤ ky ∧ ky ≤ 9223372036854775807) := by
  intro n
  induction n with
  | zero =>
    intro x at_ h0 h1 hl
    obtain ⟨v1, hv1, h10, h11⟩ := next_ok hc (at_ := at_) (by omega) (by omega) 90000
    obtain ⟨v2, hv2, hm2⟩ := pick_ok hc (at_ := at_ + 1) (by omega) (by omega) [v1, -5, 4611686018427387904] (by simp)
    obtain ⟨v3, hv3, h30, h31⟩ := next_ok hc (at_ := at_ + 1 + 1) (by omega) (by omega) 90000
    obtain ⟨v4, hv4, hm4⟩ := pick_ok hc (at_ := at_ + 1 + 1 + 1) (by omega) (by omega) [v3, -9223372036854775808, 7] (by simp)
    simp only [List.mem_cons, List.not_mem_nil, or_false] at hm2 hm4
    refine ⟨x, v2, v4, ev_step (fun k => spec_DrawMixRound.l0.eq_2 _ _ _ _ _) (ev_neg (by omega) (ev_bind (ev_now hv1) (ev_bind (ev_now hv2) (ev_bind (ev_now hv3) (ev_bind (ev_now hv4) (ev_now rfl)))))), by omega, by omega, by omega⟩
  | succ n ih =>
    intro x at_ h0 h1 hl
    obtain ⟨v1, hv1, h10, h11⟩ := next_ok hc (at_ := at_) (by omega) (by omega) 90000
    obtain ⟨v2, hv2, h20, h21⟩ := next_ok hc (at_ := at_ + 1) (by omega) (by omega) 300
    obtain ⟨v3, hv3, hm3⟩ := pick_ok hc (at_ := at_ + 1 + 1) (by omega) (by omega) [Int.tmod (wrap64 (v1 * 47721)) 4294967296, 4294967295, 0, -1, 4294967296, v2] (by simp)
    obtain ⟨r, wd, ky, hr, hrl, hw, hk⟩ := ih (x ++ [v3]) (at_ + 1 + 1 + 1) (by omega) (by omega) (by simp; omega)
    refine ⟨r, wd, ky, ev_step (fun k => spec_DrawMixRound.l0.eq_2 _ _ _ _ _) (ev_pos (by omega) (ev_bind (ev_now hv1) (ev_bind (ev_now hv2) (ev_bind (ev_now hv3) (ev_pos (by omega) ?_))))), by rw [hrl]; simp; omega, hw, hk⟩
    rw [w64 (by omega) (by omega), show ((n + 1 : Nat) : Int) - 1 = (n : Int) by omega]
    exact hr
theorem drawMix_ok {c : List Int} (hc : Byt c) : ∃ r wd ky, Ev (fun k => spec_DrawMixRound.f k c) (r, wd, ky) ∧ r.length ≤ 9 ∧ (-9223372036854775808 ≤ wd ∧ wd ≤ 9223372036854775807) ∧ (-9223372036854775808 ≤ ky ∧ ky ≤ 9223372036854775807) := by
  obtain ⟨v, hv, hm⟩ := pick_ok hc (at_ := 0) (by omega) (by omega) [8, 8, 8, 8, 8, 7, 9, 0] (by simp)
  simp only [List.mem_cons, List.not_mem_nil, or_false] at hm
  obtain ⟨n, rfl⟩ : ∃ n : Nat, v = (n : Int) := ⟨v.toNat, by omega⟩
  obtain ⟨r, wd, ky, hr, hl, hw, hk⟩ := drawMix_l0 hc n [] (0 + 1) (by omega) (by omega) (by simp; omega)
  refine ⟨r, wd, ky, ?_, by simp at hl; omega, hw, hk⟩
  unfold spec_DrawMixRound.f
  exact ev_bind (ev_now (a := spec_l1Source.f c) (r := (c, 0)) rfl) (ev_bind (ev_now hv) hr)
theorem tmod_mil (x : Int) : -1000000 < Int.tmod x 1000000 ∧ Int.tmod x 1000000 < 1000000 := by
  rcases Int.le_total 0 x with h | h
  · rw [Int.tmod_eq_emod_of_nonneg h]; omega
  · obtain ⟨y, hy, rfl⟩ : ∃ y : Int, 0 ≤ y ∧ x = -y := ⟨-x, by omega, by omega⟩
    rw [Int.neg_tmod, Int.tmod_eq_emod_of_nonneg hy]
    omega
end Go.Proofs.Ytbeigbkkecboiaa.S
namespace Go.Proofs.Ytbeigbkkecboiaa.Pure
open Go.RowKit Go.Proofs.Ytbeigbkkecboiaa.S Go.Proofs.YtbeigbkkecboiaaW.PrintWords Go.Proofs.YtbeigbkkecboiaaW.PrintLast Go.Proofs.YtbeigbkkecboiaaW.PrintMore Go.Proofs.Ytbeigbkkecboiaa.Base Go.Proofs.Ytbeigbkkecboiaa.Sha

theorem FnDigests : laws_FnDigests.Pure := by
  intro l0 _ hsz hwf
  refine Ev.rounds ?_
  have hy := byt_of_wf hwf
  unfold laws_FnDigests.f
  by_cases hc : (l0.length : Int) > 1048576
  · exact ev_bind (ev_now (show laws_lwBig.f l0 = some (decide ((l0.length : Int) > 1048576)) from rfl)) (ev_pos (decide_eq_true hc) (ev_now rfl))
  refine ev_bind (ev_now (show laws_lwBig.f l0 = some (decide ((l0.length : Int) > 1048576)) from rfl)) (ev_neg (by simpa using hc) ?_)
  obtain ⟨x, hd, hx, hl⟩ := drawDigest_ok hy
  obtain ⟨st, wd, ky, hm, hst, hwd, hky⟩ := drawMix_ok hy
  refine ev_bind hd (ev_bind hm ?_)
  have hw := tmod_mil wd
  have hk := tmod_mil ky
  simp only
  generalize Int.tmod wd 1000000 = a at *
  generalize Int.tmod ky 1000000 = b at *
  rw [w64 (n := a + b) (by omega) (by omega)]
  obtain ⟨r, h1, h2, hr8, hrl⟩ : ∃ r : List Int, impl_MixRound.f st a b = some r ∧ impl_MixRound.f st (a + b) 0 = some r ∧ (((st.length : Int) == 8) == ((r.length : Int) == 8)) = true ∧ r.length ≤ 8 := by
    by_cases h8 : st.length = 8
    · have hn : (mixV st a b).length = 8 := by
        unfold mixV
        rw [List.length_map]
        exact mixN_length (by simpa using h8) _ _
      refine ⟨mixV st a b, by unfold impl_MixRound.f; rw [if_pos h8], by unfold impl_MixRound.f; rw [if_pos h8, mixV_add st a b], by rw [h8, hn]; rfl, by omega⟩
    · refine ⟨[], by unfold impl_MixRound.f; rw [if_neg h8], by unfold impl_MixRound.f; rw [if_neg h8], ?_, by simp⟩
      rw [show ((st.length : Int) == 8) = false from beq_eq_false_iff_ne.2 (by omega)]
      rfl
  have hdg : impl_Digest.f x = some (sha x) := by
    have h := impl_dig (ls := [x]) (by simpa using hx) (by simp; omega)
    unfold impl_Digest.f
    rw [h]
    simp
  have htg : impl_TaggedDigest.f (⟨#[108, 101, 97, 102]⟩ : ByteArray) x = some (tg (⟨#[108, 101, 97, 102]⟩ : ByteArray) x) := by
    unfold impl_TaggedDigest.f
    have hz : (⟨#[108, 101, 97, 102]⟩ : ByteArray).size = 4 := rfl
    rw [impl_tag1 hx (by omega)]
    rfl
  have hbt : Byt ([4] ++ ([108, 101, 97, 102] ++ x)) := byt_append (byt_one (by decide) (by decide)) (byt_append (a := [108, 101, 97, 102]) (fun y hy => by simp only [List.mem_cons, List.not_mem_nil, or_false] at hy; omega) hx)
  have hdl : impl_Digest.f ([4] ++ ([108, 101, 97, 102] ++ x)) = some (tg (⟨#[108, 101, 97, 102]⟩ : ByteArray) x) := by
    have h := impl_dig (ls := [[4] ++ ([108, 101, 97, 102] ++ x)]) (by simpa using hbt) (by simp; omega)
    unfold impl_Digest.f
    rw [h, List.flatten_singleton]
    unfold tg
    rw [List.append_assoc]
    rfl
  refine ev_bind (ev_now h1) (ev_bind (ev_now h2) (ev_bind (ev_now rfl) (ev_bind (ev_now rfl) (ev_pos (by simp; omega) (ev_bind (ev_now rfl) (ev_pos (by simp; omega) (ev_bind (ev_now hdg) (ev_pos (by rw [sha_length]; rfl) (ev_bind (lwNums_ev r (by omega)) (ev_pos rfl (ev_pos hr8 (ev_bind (ev_now htg) ?_))))))))))))
  exact ev_bind (ev_now hdl) (ev_bind (ev_now (lwBytes_eq2 _)) (ev_now rfl))
end Go.Proofs.Ytbeigbkkecboiaa.Pure
