import Derived.Test.YtcgeajjkfoignaaShaI
import Derived.Test.YtcgeajjkfoignaaPStr
import Derived.Test.YtcgeajjkfoignaaSxSpecTaggedDigest
import Derived.Test.YtcgeajjkfoignaaSxImplTaggedY
import Derived.Test.YtcgeajjkfoignaaSxImplDigestY
import Derived.Test.YtcgeajjkfoignaaSxSpecDigest
import Derived.Test.YtcgeajjkfoignaaBase
import Derived.Test.YtcgeajjkfoignaaSxImplSmall
import Derived.Test.YtcgeajjkfoignaaSxSpecL1
import Derived.Test.YtcgeajjkfoignaaSxLawsHelp
import Derived.Test.YtcgeajjkfoignaaSxLawsHelp
import Derived.Test.YtcgeajjkfoignaaSx0
import Derived.WalkSpells
import Derived.Laws.Tables
import Derived.Laws.CopyOwn
import Derived.Test.YtcgeajjkfoignaaSxLawsHelp
import Derived.Test.YtcgeajjkfoignaaSxLawsMarkHeadY
import Derived.Test.YtcgeajjkfoignaaSxLawsHeldBlockResultY
import Derived.Test.YtcgeajjkfoignaaSxLawsEqBlockResultY
import Derived.Test.YtcgeajjkfoignaaSxLawsHeldBlockResultY
import Derived.Test.YtcgeajjkfoignaaSxSpecFirstBlock
import Derived.Test.YtcgeajjkfoignaaSxImplFirstBlock
import Derived.Test.YtcgeajjkfoignaaSxImplFirstBlock
import Derived.Test.YtcgeajjkfoignaaSxSpecFirstBlock
import Derived.Test.YtcgeajjkfoignaaSxImplTree
import Derived.Test.YtcgeajjkfoignaaSxSpecTree
import Derived.Test.YtcgeajjkfoignaaSxLawsEqBlockResultY
import Derived.Test.YtcgeajjkfoignaaSxLawsEqBlockY
import Derived.Test.YtcgeajjkfoignaaSxLawsEqHeadY
import Derived.Test.YtcgeajjkfoignaaSxLawsHelpSS
import Derived.Test.YtcgeajjkfoignaaSxLawsHeldBlockResultY
import Derived.Test.YtcgeajjkfoignaaSxLawsHeldBlockY
import Derived.Test.YtcgeajjkfoignaaSxLawsHeldHeadY
import Derived.Test.YtcgeajjkfoignaaSxLawsMarkHeadY
/- The digest and the tagged digest, as plain functions: what the program's and the reference's come to. For all bytes that fit. -/
set_option linter.unusedVariables false
namespace Go.Proofs.Ytcgeajjkfoignaa.S
open Go.RowKit Go.Proofs.YtcgeajjkfoignaaW.PrintWords Go.Proofs.YtcgeajjkfoignaaW.PrintLast Go.Proofs.YtcgeajjkfoignaaW.PrintMore Go.Proofs.Ytcgeajjkfoignaa.Base Go.Proofs.Ytcgeajjkfoignaa.Sha

theorem spec_dig {l : List Int} (hl : Byt l) (hn : l.length < 70000000000000) : spec_Digest.f l = some (sha l) := by
  unfold spec_Digest.f
  refine if_pos ?_
  unfold spec_Digest.ok
  rw [Bool.and_eq_true]
  exact ⟨List.all_eq_true.2 (fun x hx => decide_eq_true (hl x hx)), decide_eq_true hn⟩
theorem impl_dig {ls : List (List Int)} (hl : Byt ls.flatten) (hn : ls.flatten.length < 70000000000000) : impl_digest.f ls = some (sha ls.flatten) := by
  unfold impl_digest.f
  refine if_pos ?_
  unfold impl_digest.ok
  rw [Bool.and_eq_true]
  exact ⟨List.all_eq_true.2 (fun x hx => decide_eq_true (hl x hx)), decide_eq_true hn⟩
/-- The tagged digest. -/
def tg (t : ByteArray) (l : List Int) : List Int := sha ([(t.size : Int) % 256] ++ bytesOf t ++ l)
theorem tg_length (t : ByteArray) (l : List Int) : (tg t l).length = 32 := sha_length _
theorem tg_byt (t : ByteArray) (l : List Int) : Byt (tg t l) := sha_byt _
theorem tg_byt0 {t : ByteArray} {l : List Int} (hl : Byt l) : Byt ([(t.size : Int) % 256] ++ bytesOf t ++ l) :=
  byt_append (byt_append (byt_one (by omega) (by omega)) (bytesOf_byt t)) hl
theorem spec_tag {t : ByteArray} {l : List Int} (hl : Byt l) (hn : t.size + l.length < 60000000000000) : spec_TaggedDigest.f t l = some (tg t l) := by
  unfold spec_TaggedDigest.f
  refine spec_dig (tg_byt0 hl) ?_
  rw [List.length_append, List.length_append, bytesOf_length, List.length_singleton]
  omega
theorem impl_tag {t : ByteArray} {ls : List (List Int)} (hl : Byt ls.flatten) (hn : t.size + ls.flatten.length < 60000000000000) (hc : ls.length < 5000000000000) : impl_tagged.f t ls = some (tg t ls.flatten) := by
  unfold impl_tagged.f
  rw [if_pos (by omega)]
  have e : ([[(t.size : Int) % 256], bytesOf t] ++ ls).flatten = [(t.size : Int) % 256] ++ bytesOf t ++ ls.flatten := by simp
  rw [impl_dig (by rw [e]; exact tg_byt0 hl) (by rw [e, List.length_append, List.length_append, bytesOf_length, List.length_singleton]; omega), e]
  rfl
theorem impl_tag1 {t : ByteArray} {l : List Int} (hl : Byt l) (hn : t.size + l.length < 60000000000000) : impl_tagged.f t [l] = some (tg t l) := by
  have e : [l].flatten = l := by simp
  have h := impl_tag (t := t) (ls := [l]) (by rw [e]; exact hl) (by rw [e]; exact hn) (by simp)
  rw [e] at h
  exact h
theorem impl_tag2 {t : ByteArray} {l m : List Int} (hl : Byt l) (hm : Byt m) (hn : t.size + l.length + m.length < 60000000000000) : impl_tagged.f t [l, m] = some (tg t (l ++ m)) := by
  have e : [l, m].flatten = l ++ m := by simp
  have h := impl_tag (t := t) (ls := [l, m]) (by rw [e]; exact byt_append hl hm) (by rw [e, List.length_append]; omega) (by simp)
  rw [e] at h
  exact h
end Go.Proofs.Ytcgeajjkfoignaa.S

/- Is a number in its bounds: the program's and the reference's answer. -/
set_option linter.unusedVariables false
namespace Go.Proofs.Ytcgeajjkfoignaa.S
open Go.RowKit Go.Proofs.YtcgeajjkfoignaaW.PrintWords Go.Proofs.YtcgeajjkfoignaaW.PrintLast Go.Proofs.YtcgeajjkfoignaaW.PrintMore Go.Proofs.Ytcgeajjkfoignaa.Base

theorem in_eq (a b c : Int) : impl_in.f a b c = some (decide (b ≤ a ∧ a ≤ c)) := by
  unfold impl_in.f
  by_cases h : b ≤ a <;> simp [h]
theorem l1In_eq (a b c : Int) : spec_l1In.f a b c = some (decide (b ≤ a ∧ a ≤ c)) := by
  unfold spec_l1In.f
  by_cases h : b ≤ a <;> simp [h]
end Go.Proofs.Ytcgeajjkfoignaa.S

/- What the laws' own helpers on byte slices come to: toByteS copies, eqByteS compares, markByteS and heldByteS count alike. For every slice that fits memory. -/
set_option linter.unusedVariables false
namespace Go.Proofs.Ytcgeajjkfoignaa.S
open Go.RowKit Go.Proofs.YtcgeajjkfoignaaW.PrintWords Go.Proofs.YtcgeajjkfoignaaW.PrintLast Go.Proofs.YtcgeajjkfoignaaW.PrintMore Go.Proofs.Ytcgeajjkfoignaa.Base

theorem toByteS_l0 (l : List Int) (hl : l.length ≤ 281474976710656) : ∀ (d : Nat) (x : List Int) (i : Nat), i + d = l.length → x.length = l.length → (∀ j, j < i → x[j]? = l[j]?) → Ev (fun k => laws_toByteS.l0 k l x (i : Int)) l := by
  intro d
  induction d with
  | zero =>
    intro x i hi hx hj
    refine ev_step (fun k => laws_toByteS.l0.eq_2 _ _ _ _) ?_
    refine ev_neg (by omega) ?_
    rw [fill_all hx (fun j h => hj j (by omega))]
    exact ev_now rfl
  | succ d ih =>
    intro x i hi hx hj
    refine ev_step (fun k => laws_toByteS.l0.eq_2 _ _ _ _) ?_
    refine ev_pos (by omega) ?_
    refine ev_pos (by omega) ?_
    refine ev_pos (by omega) ?_
    rw [w64s (by omega), Int.toNat_natCast]
    exact ih _ (i + 1) (by omega) (by rw [List.length_set]; exact hx) (fill_step (by omega) hx hj)
theorem toByteS_ev (l : List Int) (hl : l.length ≤ 281474976710656) : Ev (fun k => laws_toByteS.f k l) l := by
  unfold laws_toByteS.f
  refine ev_pos (by omega) ?_
  refine ev_pos (by omega) ?_
  exact toByteS_l0 l hl l.length _ 0 (by omega) (by simp) (fun j h => by omega)
theorem eqByteS_l0 (l : List Int) (hl : l.length ≤ 281474976710656) : ∀ (d i : Nat), i + d = l.length → Ev (fun k => laws_eqByteS.l0 k l l (i : Int)) true := by
  intro d
  induction d with
  | zero =>
    intro i hi
    refine ev_step (fun k => laws_eqByteS.l0.eq_2 _ _ _ _) ?_
    refine ev_neg (by omega) ?_
    exact ev_now rfl
  | succ d ih =>
    intro i hi
    refine ev_step (fun k => laws_eqByteS.l0.eq_2 _ _ _ _) ?_
    refine ev_pos (by omega) ?_
    refine ev_pos (by omega) ?_
    refine ev_pos (by omega) ?_
    refine ev_pos rfl ?_
    rw [w64s (by omega)]
    exact ih (i + 1) (by omega)
theorem eqByteS_ev (l : List Int) (hl : l.length ≤ 281474976710656) : Ev (fun k => laws_eqByteS.f k l l) true := by
  unfold laws_eqByteS.f
  refine ev_pos rfl ?_
  exact eqByteS_l0 l hl l.length 0 (by omega)
end Go.Proofs.Ytcgeajjkfoignaa.S

/- What the laws' markByteS and heldByteS come to: places are numbered from a start on, and found numbered so. For every slice and start that fit. -/
set_option linter.unusedVariables false
namespace Go.Proofs.Ytcgeajjkfoignaa.S
open Go.RowKit Go.Proofs.YtcgeajjkfoignaaW.PrintWords Go.Proofs.YtcgeajjkfoignaaW.PrintLast Go.Proofs.YtcgeajjkfoignaaW.PrintMore Go.Proofs.Ytcgeajjkfoignaa.Base

/-- n places numbered from a on. -/
def marked (a : Int) (n : Nat) : List Int := (List.range n).map fun (j : Nat) => (a + (j : Int)) % 256
theorem marked_length (a : Int) (n : Nat) : (marked a n).length = n := by simp [marked]
theorem marked_at (a : Int) (n j : Nat) (h : j < n) : (marked a n)[j]? = some ((a + (j : Int)) % 256) := by
  simp [marked, List.getElem?_map, List.getElem?_range h]
theorem markByteS_l0 (a : Int) (n : Nat) (h0 : 0 ≤ a) (h1 : a + n ≤ 4611686018427387904) : ∀ (d i : Nat) (x : List Int), i + d = n → x.length = n → (∀ j, j < i → x[j]? = (marked a n)[j]?) → Ev (fun k => laws_markByteS.l0 k x (a + (i : Int)) (i : Int)) (a + (n : Int), marked a n) := by
  intro d
  induction d with
  | zero =>
    intro i x hi hx hj
    refine ev_step (fun k => laws_markByteS.l0.eq_2 _ _ _ _) (ev_neg (by omega) ?_)
    have e : x = marked a n := fill_all (by rw [marked_length]; exact hx) (fun j h => hj j (by rw [marked_length] at h; omega))
    rw [e, show i = n by omega]
    exact ev_now rfl
  | succ d ih =>
    intro i x hi hx hj
    refine ev_step (fun k => laws_markByteS.l0.eq_2 _ _ _ _) (ev_pos (by omega) (ev_pos (by omega) ?_))
    rw [w64s (by omega), w64 (n := a + (i : Int) + 1) (by omega) (by omega), Int.toNat_natCast, show a + (i : Int) + 1 = a + ((i + 1 : Nat) : Int) by omega]
    refine ih (i + 1) _ (by omega) (by rw [List.length_set]; exact hx) ?_
    intro j hj'
    rw [List.getElem?_set]
    by_cases e : i = j
    · subst e
      rw [if_pos rfl, if_pos (by omega), marked_at a n i (by omega)]
    · rw [if_neg e]; exact hj j (by omega)
theorem markByteS_ev (l : List Int) (a : Int) (h0 : 0 ≤ a) (h1 : a + l.length ≤ 4611686018427387904) : Ev (fun k => laws_markByteS.f k l a) (a + (l.length : Int), marked a l.length) := by
  have h := markByteS_l0 a l.length h0 h1 l.length 0 l (by omega) rfl (fun j h => by omega)
  rw [show a + ((0 : Nat) : Int) = a by omega] at h
  exact h
theorem heldByteS_l0 (a : Int) (n : Nat) (h0 : 0 ≤ a) (h1 : a + n ≤ 4611686018427387904) : ∀ (d i : Nat), i + d = n → Ev (fun k => laws_heldByteS.l0 k (marked a n) (a + (i : Int)) (i : Int)) (a + (n : Int)) := by
  intro d
  induction d with
  | zero =>
    intro i hi
    refine ev_step (fun k => laws_heldByteS.l0.eq_2 _ _ _ _) (ev_neg (by rw [marked_length]; omega) ?_)
    rw [show i = n by omega]
    exact ev_now rfl
  | succ d ih =>
    intro i hi
    refine ev_step (fun k => laws_heldByteS.l0.eq_2 _ _ _ _) (ev_pos (by rw [marked_length]; omega) (ev_pos (by omega) (ev_pos ?_ ?_)))
    · unfold rd
      rw [List.getD_eq_getElem?_getD, Int.toNat_natCast, marked_at a n i (by omega)]
      rfl
    · rw [w64s (by omega), w64 (n := a + (i : Int) + 1) (by omega) (by omega), show a + (i : Int) + 1 = a + ((i + 1 : Nat) : Int) by omega]
      exact ih (i + 1) (by omega)
theorem heldByteS_ev (n : Nat) (a : Int) (h0 : 0 ≤ a) (h1 : a + n ≤ 4611686018427387904) : Ev (fun k => laws_heldByteS.f k (marked a n) a) (a + (n : Int)) := by
  have h := heldByteS_l0 a n h0 h1 n 0 (by omega)
  rw [show a + ((0 : Nat) : Int) = a by omega] at h
  exact h
end Go.Proofs.Ytcgeajjkfoignaa.S

/- Rows of rows of the call's own, no two of which share memory; where in memory they lie; what the laws' marks make of them. No condition beyond those in the statements. -/
set_option linter.unusedVariables false
set_option linter.unusedSimpArgs false
namespace Go.Proofs.Ytcgeajjkfoignaa.S
open Go Go.RowKit Go.Proofs.YtcgeajjkfoignaaW.PrintWords Go.Proofs.YtcgeajjkfoignaaW.PrintLast Go.Proofs.YtcgeajjkfoignaaW.PrintMore Go.Proofs.Ytcgeajjkfoignaa.Base

def In (lo hi : Nat) : Nat → Prop := fun k => lo ≤ k ∧ k < hi
theorem In_apart {lo hi a b : Nat} (h : hi ≤ a ∨ b ≤ lo) : ∀ k, In lo hi k → ¬ In a b k := fun k h1 h2 => by
  unfold In at h1 h2
  omega
/-- A row that was made lies in the blocks that are new. -/
theorem F_in {α : Type} {d : Kd α} {e base : Nat} {ok : Nat → Prop} {w : World} {v : Value} {xs : List α} (h : d.R e w base ok v xs) : ∃ A c, v = .slice A xs.length c ∧ xs.length ≤ c ∧ Kd.F d w (In base w.heap.size) A xs.length xs := by
  obtain ⟨A, c, rfl⟩ := Kd.R_slice h
  exact ⟨A, c, rfl, (Kd.R_reads' h).2.1, Kd.F_mono (Kd.R_F (Kd.R_bound h)) (fun k hk => ⟨hk.2.1, hk.2.2.1⟩)⟩
theorem F_keptIn {α : Type} {d : Kd α} {w w1 : World} {lo hi a b n : Nat} {A : Option Addr} {xs : List α} (h : Kd.F d w (In lo hi) A n xs) (hk : Kept w w1 (In a b)) (hd : hi ≤ a ∨ b ≤ lo) : Kd.F d w1 (In lo hi) A n xs := Kd.F_kept h hk (In_apart hd)
theorem add_block (ad : Addr) (i : Nat) : (ad.add i).block = ad.block := by
  unfold Addr.add
  split <;> rfl
/-- Rows of bytes, each its own memory, all between lo and hi. -/
def AR (base : Nat) (w : World) (lo hi : Nat) (A : Option Addr) (ls : List (List Int)) : Prop :=
  ls.length ≤ 9223372036854775807 ∧ (ls = [] ∨ ∃ (ad : Addr) (vs : Nat → Value), A = some ad ∧ (lo ≤ ad.block ∧ ad.block < hi) ∧
    (∀ i, (h : i < ls.length) → w.cell? (ad.add i) = some (vs i) ∧ Kd.R (Kd.int .u8) 5 w base (fun k => some k = (vs i).ownBlock) (vs i) ls[i]) ∧
    (∀ i k, i < ls.length → (vs i).ownBlock = some k → (lo ≤ k ∧ k < hi) ∧ k ≠ ad.block) ∧
    (∀ i j k, i < ls.length → j < ls.length → i ≠ j → (vs i).ownBlock = some k → (vs j).ownBlock ≠ some k))
section
variable {base lo hi a b : Nat} {w w1 : World} {A : Option Addr} {ls : List (List Int)}
theorem AR.below (h : AR base w lo hi A ls) (hb : Below w.heap.size w w1) : AR base w1 lo hi A ls := by
  refine ⟨h.1, h.2.imp id ?_⟩
  rintro ⟨ad, vs, hA, hg, hr, hin, hap⟩
  exact ⟨ad, vs, hA, hg, fun i hi => ⟨(hb.cell (World.block_lt_of_cell? w _ (hr i hi).1)).trans (hr i hi).1, Kd.R_below (hr i hi).2 hb⟩, hin, hap⟩
theorem AR.kept (h : AR base w lo hi A ls) (hk : Kept w w1 (In a b)) (hd : hi ≤ a ∨ b ≤ lo) : AR base w1 lo hi A ls := by
  refine ⟨h.1, h.2.imp id ?_⟩
  rintro ⟨ad, vs, hA, hg, hr, hin, hap⟩
  exact ⟨ad, vs, hA, hg, fun i hi => ⟨cell_kept (hr i hi).1 hk (by rw [add_block]; exact In_apart hd _ hg), Kd.R_kept (hr i hi).2 hk (fun k hk2 => In_apart hd k (hin i k hi hk2.symm).1)⟩, hin, hap⟩
theorem AR.foot (h : AR base w lo hi A ls) : Kd.F (Kd.slice 5 (Kd.int .u8)) w (In lo hi) A ls.length ls := fun W' hW => by
  refine ⟨rfl, h.1, fun hp => ?_⟩
  rcases h.2 with rfl | ⟨ad, vs, hA, hg, hr, hin, hap⟩
  · simp at hp
  refine ⟨ad, hA, fun j p hj => ?_⟩
  obtain ⟨hjl, hpj⟩ := List.getElem?_eq_some_iff.1 hj
  obtain ⟨hc, hR⟩ := hr j hjl
  have hR2 : Kd.R (Kd.int .u8) 5 W' base (fun k => some k = (vs j).ownBlock) (vs j) ls[j] := Kd.R_step hR (fun k ho hlt => hW k (hin j k hjl ho.symm).1 hlt)
  rw [hpj] at hR2
  obtain ⟨A', c', hv⟩ := Kd.R_slice hR2
  rw [hv] at hR2
  obtain ⟨_, h2, h3⟩ := Kd.R_reads' hR2
  refine ⟨[vs j], rfl, ⟨A', c', by rw [hv], h2, h3⟩, fun i u hu => ?_⟩
  cases i with
  | zero =>
    have e1 : vs j = u := by simpa using hu
    rw [← e1]
    show W'.cell? (ad.add (j * 1 + 0)) = _
    rw [Nat.mul_one, Nat.add_zero]
    have hb := hW ad.block hg (by have := World.block_lt_of_cell? w _ hc; rwa [add_block] at this)
    rw [← hc]
    unfold World.cell?
    rw [add_block, hb]
  | succ i => simp at hu
/-- A cut of such rows. -/
theorem AR.drop (h : AR base w lo hi A ls) (m c : Nat) (hm : m ≤ ls.length) (hc : ls.length ≤ c) : AR base w lo hi (if c = m then A else A.map (·.add m)) (ls.drop m) := by
  refine ⟨by have := h.1; rw [List.length_drop]; omega, ?_⟩
  rcases h.2 with rfl | ⟨ad, vs, hA, hg, hr, hin, hap⟩
  · exact .inl (by simp)
  by_cases hz : ls.length = m
  · exact .inl (List.drop_of_length_le (by omega))
  refine .inr ⟨ad.add m, fun i => vs (m + i), by rw [if_neg (by omega), hA]; rfl, by rw [add_block]; exact hg, fun i hi => ?_, fun i k hi hk => ?_, fun i j k hi hj hij hk => ?_⟩
  · have hi2 : m + i < ls.length := by rw [List.length_drop] at hi; omega
    obtain ⟨h1, h2⟩ := hr (m + i) hi2
    have ha : (ad.add m).add i = ad.add (m + i) := by
      unfold Addr.add
      by_cases h1 : m = 0 <;> by_cases h2 : i = 0 <;> simp [h1, h2, Nat.add_assoc]
    refine ⟨by rw [ha]; exact h1, ?_⟩
    rw [List.getElem_drop]
    exact h2
  · rw [List.length_drop] at hi
    rw [add_block]
    exact hin (m + i) k (by omega) hk
  · rw [List.length_drop] at hi hj
    exact hap (m + i) (m + j) k (by omega) (by omega) (by omega) hk
theorem AR.take (h : AR base w lo hi A ls) (m : Nat) : AR base w lo hi A (ls.take m) := by
  refine ⟨by have := h.1; rw [List.length_take]; omega, ?_⟩
  rcases h.2 with rfl | ⟨ad, vs, hA, hg, hr, hin, hap⟩
  · exact .inl (by simp)
  refine .inr ⟨ad, vs, hA, hg, fun i hi => ?_, fun i k hi hk => ?_, fun i j k hi hj hij hk => ?_⟩
  · rw [List.length_take] at hi
    rw [List.getElem_take]
    exact hr i (by omega)
  · rw [List.length_take] at hi
    exact hin i k (by omega) hk
  · rw [List.length_take] at hi hj
    exact hap i j k (by omega) (by omega) hij hk
theorem AR.nil (base : Nat) (w : World) (lo hi : Nat) (A : Option Addr) : AR base w lo hi A [] := ⟨by simp, .inl rfl⟩
end
/-- What the printed walks call apart is so. -/
theorem AR_of_S {e base base0 : Nat} {ok : Nat → Prop} {w : World} {v : Value} {ls : List (List Int)} (h : Kd.S (Kd.slice 5 (Kd.int .u8)) e w base0 ok v ls) (hb : base ≤ base0) :
    ∃ A c, v = .slice A ls.length c ∧ ls.length ≤ c ∧ AR base w base0 w.heap.size A ls := by
  have hR := Kd.S_R h
  obtain ⟨A, c, rfl⟩ := Kd.R_slice hR
  obtain ⟨_, hc, hC⟩ := Kd.R_reads' hR
  refine ⟨A, c, rfl, hc, hC.2.1, ?_⟩
  by_cases hz : ls = []
  · exact .inl hz
  have hp : 0 < ls.length := by cases ls with
    | nil => exact absurd rfl hz
    | cons x l => simp
  obtain ⟨f, hf⟩ := h
  obtain ⟨g, cap, hv, hg0, hg1, cells, hcells⟩ := Kd.R_form hR hp
  injection hv with hv1 hv2 hv3
  subst hv1
  have each : ∀ i, (hi : i < ls.length) → ∃ u, w.cell? ⟨g, i, none⟩ = some u ∧ Kd.R (Kd.int .u8) 5 w base0 (fun k => (ok k ∧ k ≠ g) ∧ f k = i) u ls[i] := fun i hi => by
    obtain ⟨cs, hcl, hM, hcc, _⟩ := Kd.R_elem (d := Kd.tag f (Kd.slice 5 (Kd.int .u8))) hf ([], 0) (i : Int) (by omega) (by omega)
    have e1 : ls.zipIdx.getD (i : Int).toNat ([], 0) = (ls[i], i) := by
      rw [Int.toNat_natCast, List.getD_eq_getElem?_getD, Kd.zip_at (List.getElem?_eq_getElem hi)]
      rfl
    rw [e1] at hM
    obtain ⟨u, rfl, hu⟩ := hM
    refine ⟨u, ?_, hu⟩
    have h1 := hcc 0 u rfl
    rw [Int.toNat_natCast] at h1
    have h2 : w.cell? ⟨g, i * 1 + 0, none⟩ = some u := h1
    rwa [Nat.mul_one, Nat.add_zero] at h2
  refine .inr ⟨⟨g, 0, none⟩, fun i => (w.cell? ⟨g, i, none⟩).getD (.bool false), rfl, ⟨hg0, hg1⟩, fun i hi => ?_, fun i k hi hk => ?_, fun i j k hi hj hij hk hk2 => ?_⟩
  · obtain ⟨u, hu, hr⟩ := each i hi
    rw [add_plain]
    simp only [hu, Option.getD_some]
    exact ⟨trivial, Kd.R_lower (Kd.R_tight rfl hr) hb⟩
  · obtain ⟨u, hu, hr⟩ := each i hi
    simp only [hu, Option.getD_some] at hk
    have := (Kd.R_bound hr).1 k hk
    exact ⟨⟨this.2.1, this.2.2.1⟩, this.1.1.2⟩
  · obtain ⟨u, hu, hr⟩ := each i hi
    obtain ⟨u2, hu2, hr2⟩ := each j hj
    simp only [hu, Option.getD_some] at hk
    simp only [hu2, Option.getD_some] at hk2
    have h1 := (hr.1 k hk).2
    have h2 := (hr2.1 k hk2).2
    omega
/-! The marks. -/
def markAll (a : Int) : List (List Int) → List (List Int)
  | [] => []
  | l :: r => marked a l.length :: markAll (a + (l.length : Int)) r
theorem markAll_length : ∀ (ls : List (List Int)) (a : Int), (markAll a ls).length = ls.length
  | [], _ => rfl
  | l :: r, a => by simp [markAll, markAll_length r]
/-- Where row i's marks begin. -/
def offs (ls : List (List Int)) (i : Nat) : Nat := (ls.take i).flatten.length
theorem offs_step (ls : List (List Int)) (i : Nat) (h : i < ls.length) : offs ls (i + 1) = offs ls i + ls[i].length := by
  unfold offs
  rw [List.take_succ_eq_append_getElem h, List.flatten_append, List.length_append]
  simp
theorem offs_le (ls : List (List Int)) (i : Nat) : offs ls i ≤ ls.flatten.length := by
  unfold offs
  have h := congrArg List.length (congrArg List.flatten (List.take_append_drop i ls))
  rw [List.flatten_append, List.length_append] at h
  omega
theorem markAll_get : ∀ (ls : List (List Int)) (a : Int) (i : Nat) (h : i < ls.length), (markAll a ls)[i]? = some (marked (a + (offs ls i : Int)) ls[i].length)
  | [], _, i, h => by simp at h
  | l :: r, a, 0, h => by simp [markAll, offs]
  | l :: r, a, i + 1, h => by
    have h2 : i < r.length := by simpa using h
    have e : offs (l :: r) (i + 1) = l.length + offs r i := by simp [offs]
    show (markAll (a + (l.length : Int)) r)[i]? = _
    rw [markAll_get r (a + (l.length : Int)) i h2, e]
    simp only [List.getElem_cons_succ]
    rw [show a + (l.length : Int) + (offs r i : Int) = a + ((l.length + offs r i : Nat) : Int) by omega]
def midSS (a : Int) (ls : List (List Int)) (i : Nat) : List (List Int) := (markAll a ls).take i ++ ls.drop i
theorem midSS_length (a : Int) (ls : List (List Int)) (i : Nat) (h : i ≤ ls.length) : (midSS a ls i).length = ls.length := by
  simp [midSS, markAll_length]
  omega
theorem midSS_get (a : Int) (ls : List (List Int)) (i : Nat) (h : i < ls.length) : (midSS a ls i)[i]? = some ls[i] := by
  have hl : ((markAll a ls).take i).length = i := by rw [List.length_take, markAll_length]; omega
  unfold midSS
  rw [List.getElem?_append_right (by omega), hl, Nat.sub_self, List.getElem?_drop]
  simp [h]
theorem midSS_step (a : Int) (ls : List (List Int)) (i : Nat) (h : i < ls.length) : (midSS a ls i).set i (marked (a + (offs ls i : Int)) ls[i].length) = midSS a ls (i + 1) := by
  have hl : ((markAll a ls).take i).length = i := by rw [List.length_take, markAll_length]; omega
  have hg := markAll_get ls a i h
  have hlt : i < (markAll a ls).length := by rw [markAll_length]; exact h
  rw [List.getElem?_eq_getElem hlt] at hg
  have hg := Option.some.inj hg
  unfold midSS
  rw [List.set_append_right _ _ (by omega), hl, Nat.sub_self, List.drop_eq_getElem_cons h, List.set_cons_zero, List.take_succ_eq_append_getElem hlt, hg, List.append_assoc]
  rfl
theorem midSS_all (a : Int) (ls : List (List Int)) : midSS a ls ls.length = markAll a ls := by
  unfold midSS
  rw [List.take_of_length_le (by rw [markAll_length]; exact Nat.le_refl _), List.drop_of_length_le (Nat.le_refl _), List.append_nil]
/-- One row is written. -/
theorem AR.put {base lo hi : Nat} {w w1 : World} {ad : Addr} {vs : Nat → Value} {ls : List (List Int)} {i : Nat} {l2 : List Int} (hlen : ls.length ≤ 9223372036854775807) (hg : lo ≤ ad.block ∧ ad.block < hi)
    (hr : ∀ i, (h : i < ls.length) → w.cell? (ad.add i) = some (vs i) ∧ Kd.R (Kd.int .u8) 5 w base (fun k => some k = (vs i).ownBlock) (vs i) ls[i])
    (hin : ∀ i k, i < ls.length → (vs i).ownBlock = some k → (lo ≤ k ∧ k < hi) ∧ k ≠ ad.block)
    (hap : ∀ i j k, i < ls.length → j < ls.length → i ≠ j → (vs i).ownBlock = some k → (vs j).ownBlock ≠ some k)
    (hi_ : i < ls.length) (h2 : Kd.R (Kd.int .u8) 5 w1 base (fun k => some k = (vs i).ownBlock) (vs i) l2) (hk : Kept w w1 (fun k => some k = (vs i).ownBlock)) :
    (∀ j, (h : j < (ls.set i l2).length) → w1.cell? (ad.add j) = some (vs j) ∧ Kd.R (Kd.int .u8) 5 w1 base (fun k => some k = (vs j).ownBlock) (vs j) (ls.set i l2)[j]) := by
  intro j hj
  have hj2 : j < ls.length := by simpa using hj
  obtain ⟨hc, hR⟩ := hr j hj2
  refine ⟨cell_kept hc hk (by rw [add_block]; exact fun e => (hin i _ hi_ e.symm).2 rfl), ?_⟩
  rw [List.getElem_set]
  split
  · rename_i e
    subst e
    exact h2
  · rename_i e
    exact Kd.R_kept hR hk (fun k hk1 hk2 => hap i j k hi_ hj2 e hk2.symm hk1.symm)
end Go.Proofs.Ytcgeajjkfoignaa.S
namespace Go.Proofs.Ytcgeajjkfoignaa.S
open Go Go.RowKit Go.Proofs.YtcgeajjkfoignaaW.PrintWords Go.Proofs.YtcgeajjkfoignaaW.PrintLast Go.Proofs.YtcgeajjkfoignaaW.PrintMore Go.Proofs.Ytcgeajjkfoignaa.Base
/-- Where a walk stands still: its goal under a word. -/
def Hold (p : Prop) : Prop := p
theorem hold_here {p : Prop} (h : Hold p) : p := h
theorem hold_go {p : Prop} (h : p) : Hold p := h
theorem AR.drewN {base lo hi : Nat} {w : World} {A : Option Addr} {ls : List (List Int)} (h : AR base w lo hi A ls) (n : Nat) : AR base (w.drewN n) lo hi A ls := h.below (pw_below_drewN (Below.refl _ _) n)
theorem AR.drew {base lo hi : Nat} {w : World} {A : Option Addr} {ls : List (List Int)} (h : AR base w lo hi A ls) : AR base w.drew lo hi A ls := h.below (below_drew1 (Below.refl _ _))
theorem AR.alloc {base lo hi : Nat} {w : World} {A : Option Addr} {ls : List (List Int)} (h : AR base w lo hi A ls) (o : Obj) : AR base (w.alloc o) lo hi A ls := h.below (below_alloc (Below.refl _ _) o)
/-- A row of bytes of the call's own, between lo and hi. -/
theorem B_of_R {e base base0 : Nat} {ok : Nat → Prop} {w : World} {v : Value} {xs : List Int} (h : Kd.R (Kd.int .u8) e w base0 ok v xs) (hb : base ≤ base0) :
    ∃ A c, v = .slice A xs.length c ∧ Kd.R (Kd.int .u8) e w base (In base0 w.heap.size) (.slice A xs.length c) xs := by
  obtain ⟨A, c, rfl⟩ := Kd.R_slice h
  exact ⟨A, c, rfl, Kd.R_lower (Kd.R_mono (Kd.R_bound h) (fun k hk => ⟨hk.2.1, hk.2.2.1⟩)) hb⟩
theorem B_kept {e base lo hi a b : Nat} {w w1 : World} {v : Value} {xs : List Int} (h : Kd.R (Kd.int .u8) e w base (In lo hi) v xs) (hk : Kept w w1 (In a b)) (hd : hi ≤ a ∨ b ≤ lo) : Kd.R (Kd.int .u8) e w1 base (In lo hi) v xs := Kd.R_kept h hk (In_apart hd)
theorem B_tight {e base lo hi : Nat} {ok : Nat → Prop} {w w0 : World} {v : Value} {xs ys : List Int} (h0 : Kd.R (Kd.int .u8) e w0 base (In lo hi) v ys) (h : Kd.R (Kd.int .u8) e w base ok v xs) : Kd.R (Kd.int .u8) e w base (In lo hi) v xs := Kd.R_mono (Kd.R_tight rfl h) (fun k hk => h0.1 k hk.symm)
theorem blk_keptIn {g a b : Nat} {w w1 : World} {o : Obj} (h : w.heap[g]? = some o) (hk : Kept w w1 (In a b)) (hd : g < a ∨ b ≤ g) : w1.heap[g]? = some o := blk_kept h hk (fun h2 => by unfold In at h2; omega)
theorem row_store {P : Program} {ops : Array Oper} {rest : List Oper} {o : Oper} {a : Act} {w w0 : World} {B : Nat} {Q : Exit → Act → World → Prop} (hgd : o.guard = none) (ty : TypeId) (x y : Operand) (ho : o.op = .store ty x y)
    (g : Nat) (cells : Array Value) (hx : a.eval x = .pointer (some ⟨g, 0, none⟩)) (hy : a.eval y = .agg cells)
    (t : TypeId) (old : Array Value) (hg : w.heap[g]? = some (.cells old t (0, 0))) (hi : (P.info? ty).map (·.size) = some cells.size)
    (hold : old.size = cells.size) (h1 : cells.all (·.oneCell') = true) (hd : o.dst = none) (hb : Below B w0 w) (hB : B ≤ g)
    (h : ∀ w1 : World, w1.heap[g]? = some (.cells cells t (0, 0)) → Kept w w1 (In g (g + 1)) → Below B w0 w1 → wpList P ops Q rest a w1) : wpList P ops Q (o :: rest) a w := by
  refine wpList_store_row hgd ty x y ho g cells hx hy t old hg hi hold h1 ?_
  rw [hd]
  exact h _ (setRow_heap w g old cells t (0, 0) hg) ⟨by simp [World.setRow], fun k hk hn => setRow_other w g k cells (fun e => hn (by subst e; exact ⟨Nat.le_refl _, Nat.lt_succ_self _⟩))⟩ (below_setRow hb hB cells)
end Go.Proofs.Ytcgeajjkfoignaa.S

/- The laws' mark of rows of rows: it writes these rows alone, place by place. No condition beyond those in the statement. -/
set_option linter.unusedVariables false
set_option linter.unusedSimpArgs false
namespace Go.Proofs.Ytcgeajjkfoignaa.S
open Go Go.RowKit Go.Proofs.YtcgeajjkfoignaaW.PrintWords Go.Proofs.YtcgeajjkfoignaaW.PrintLast Go.Proofs.YtcgeajjkfoignaaW.PrintMore Go.Proofs.Ytcgeajjkfoignaa.Base
attribute [local go_sem] max2_int min2_int max_two min_two max_three min_three max_four min_four

set_option maxHeartbeats 8000000 in
set_option maxRecDepth 100000 in
theorem markSS_calls (ls : List (List Int)) (a : Int) (h0 : 0 ≤ a) (h1 : a + (ls.flatten.length : Int) ≤ 4611686018427387904) (w0 w : World) (lo hi : Nat) (A : Option Addr) (c : Nat) (hB : Below w0.heap.size w0 w) (hA : AR w0.heap.size w lo hi A ls) (hc : ls.length ≤ c) (hl : ls.length ≤ 1000000000) :
    Calls Try.prog 78 #[.slice A ls.length c, .int .i64 a] w fun e w' => e = .returned (.int .i64 (a + (ls.flatten.length : Int))) ∧ AR w0.heap.size w' lo hi A (markAll a ls) ∧ Below w0.heap.size w0 w' ∧ Kept w w' (In lo hi) := by
  rcases hA with ⟨hlen, rfl | ⟨ad, vs, rfl, hg, hr, hin, hap⟩⟩
  · have HB := Aside0.mk hB
    have e0 : a + (([] : List (List Int)).flatten.length : Int) = a := by simp
    rw [e0]
    clear hB
    go_enter Try.func78, Try.ntmps78
    go_wp2
    go_loopg [1, 5] 0 (fun kq v1 v5 w' => v1 = .int .i64 a ∧ v5 = .int .i64 0 ∧ w' = w)
    case atStart => exact ⟨rfl, rfl, rfl⟩
    case round =>
      obtain ⟨rfl, rfl, rfl⟩ := hrel
      go_wp2
      go_ret
      exact ⟨rfl, AR.nil _ _ _ _ _, HB.out, Kept.refl _ _⟩
  · have HI := Aside0.mk hin
    have HP := Aside0.mk hap
    have HG := Aside0.mk hg
    have HN := Aside0.mk hlen
    have HL := Aside0.mk hl
    have H0 := Aside0.mk h0
    have H1 := Aside0.mk h1
    have HB := Aside0.mk hB
    have HR := Aside0.mk (show ∀ i, (h : i < (midSS a ls 0).length) → w.cell? (ad.add i) = some (vs i) ∧ Kd.R (Kd.int .u8) 5 w w0.heap.size (fun k => some k = (vs i).ownBlock) (vs i) (midSS a ls 0)[i] from hr)
    have HK := Aside0.mk (Kept.refl w (In lo hi))
    clear hin hap hg hlen hl h0 h1 hB hr hc
    go_enter Try.func78, Try.ntmps78
    go_wp2
    go_loopg [1, 5] ls.length (fun kq v1 v5 w' => ∃ i : Nat, v5 = .int .i64 (i : Int) ∧ v1 = .int .i64 (a + (offs ls i : Int)) ∧ Aside0 (i + kq = ls.length) ∧ Aside0 (∀ j, (h : j < (midSS a ls i).length) → w'.cell? (ad.add j) = some (vs j) ∧ Kd.R (Kd.int .u8) 5 w' w0.heap.size (fun k => some k = (vs j).ownBlock) (vs j) (midSS a ls i)[j]) ∧ Aside0 (Below w0.heap.size w0 w') ∧ Aside0 (Kept w w' (In lo hi)))
    case atStart => exact ⟨0, rfl, by simp [offs], ⟨by omega⟩, HR, HB, HK⟩
    case round =>
      clear HR HB HK
      obtain ⟨i, rfl, rfl, HJ, HR, HB, HK⟩ := hrel
      cases gk with
      | zero =>
        have e := HJ.out
        obtain rfl : i = ls.length := by omega
        have e1 : offs ls ls.length = ls.flatten.length := by unfold offs; rw [List.take_of_length_le (Nat.le_refl _)]
        rw [e1]
        have HA := Aside0.mk (show AR w0.heap.size wr lo hi (some ad) (markAll a ls) from ⟨by rw [markAll_length]; exact HN.out, .inr ⟨ad, vs, rfl, HG.out, fun j hj => by
          have := HR.out j (by rw [midSS_all]; exact hj)
          simp only [midSS_all] at this
          exact this, fun j k hj hk => HI.out j k (by rw [markAll_length] at hj; exact hj) hk, fun j j2 k hj hj2 hne hk => HP.out j j2 k (by rw [markAll_length] at hj; exact hj) (by rw [markAll_length] at hj2; exact hj2) hne hk⟩⟩)
        have c1_ : decide ((ls.length : Int) < (ls.length : Int)) = false := decide_eq_false (by omega)
        clear e HR
        go_wp2
        go_ret
        exact ⟨rfl, HA.out, HB.out, HK.out⟩
      | succ k1 =>
        have e := HJ.out
        have hlt : i < ls.length := by omega
        have hll := HL.out
        have c1_ : decide ((i : Int) < (ls.length : Int)) = true := decide_eq_true (by omega)
        have p0 : (0 ≤ (i : Int)) = True := eq_true (by omega)
        have p1 : ((i : Int) < (ls.length : Int)) = True := eq_true (by omega)
        have hml := midSS_length a ls i (by omega)
        obtain ⟨hx, hRi⟩ := HR.out i (by omega)
        have hgi := midSS_get a ls i hlt
        rw [List.getElem?_eq_getElem (show i < (midSS a ls i).length by omega)] at hgi
        rw [Option.some.inj hgi] at hRi
        have ho := offs_step ls i hlt
        have hst := midSS_step a ls i hlt
        obtain ⟨row, hrow⟩ : ∃ r, r = ls[i] := ⟨_, rfl⟩
        rw [← hrow] at hRi ho hst
        have hol := offs_le ls (i + 1)
        have H0' := H0.out
        have H1' := H1.out
        obtain ⟨km, hkm⟩ := (markByteS_ev row (a + (offs ls i : Int)) (by omega) (by omega)).rounds
        have HM := Aside0.mk hkm
        have HRi := Aside0.mk hRi
        have HO := Aside0.mk (show a + (offs ls i : Int) + (row.length : Int) = a + (offs ls (i + 1) : Int) by omega)
        have HS := Aside0.mk hst
        have HML := Aside0.mk hml
        have HLT := Aside0.mk hlt
        clear hkm hRi e hll hml hgi ho hol H0' H1' hst hrow hlt
        go_wp2_with (first | (go_at_call 14; refine (laws_markByteS.calls km (fun k => some k = (vs i).ownBlock) (vs i) row _ _ _ w0 _ HB.out HRi.out HM.out).mono ?_; rintro e w1 ⟨rfl, hR1, hb1, hk1⟩; have HR1 := Aside0.mk hR1; have HB1 := Aside0.mk hb1; have HK1 := Aside0.mk hk1; clear hR1 hb1 hk1))
        rw [HO.out]
        have HK2 := Aside0.mk (show Kept w w1 (In lo hi) from HK.out.then_ HK1.out (fun k hk => .inl (HI.out i k HLT.out hk.symm).1))
        have HR2 := Aside0.mk (AR.put (by rw [HML.out]; exact HN.out) HG.out HR.out (fun j k hj hk => HI.out j k (by rw [← HML.out]; exact hj) hk) (fun j j2 k hj hj2 hne hk => HP.out j j2 k (by rw [← HML.out]; exact hj) (by rw [← HML.out]; exact hj2) hne hk) (by rw [HML.out]; exact HLT.out) (Kd.R_tight rfl HR1.out) HK1.out)
        have HR3 := Aside0.mk (show ∀ j, (h : j < (midSS a ls (i + 1)).length) → w1.cell? (ad.add j) = some (vs j) ∧ Kd.R (Kd.int .u8) 5 w1 w0.heap.size (fun k => some k = (vs j).ownBlock) (vs j) (midSS a ls (i + 1))[j] from by
          have h := HR2.out
          simp only [HS.out] at h
          exact h)
        clear hx HR HR1 HR2 HB HK HK1 HRi
        go_roundg k1
        case measure => have := HJ.out; omega
        case rel => exact ⟨i + 1, by first | rfl | (rw [w64s (by have := HJ.out; have := HL.out; omega)]), rfl, ⟨by have := HJ.out; omega⟩, HR3, HB1, HK2⟩

end Go.Proofs.Ytcgeajjkfoignaa.S

/- The laws' marks of a Block and a BlockResult without transactions. No condition beyond those in the statements. -/
set_option linter.unusedVariables false
set_option linter.unusedSimpArgs false
namespace Go.Proofs.Ytcgeajjkfoignaa.S
open Go Go.RowKit Go.Proofs.YtcgeajjkfoignaaW.PrintWords Go.Proofs.YtcgeajjkfoignaaW.PrintLast Go.Proofs.YtcgeajjkfoignaaW.PrintMore Go.Proofs.Ytcgeajjkfoignaa.Base
attribute [local go_sem] max2_int min2_int max_two min_two max_three min_three max_four min_four

theorem markNil_calls (b : Int) (h0 : 0 ≤ b) (h1 : b ≤ 4611686018427387904) (w0 w : World) (A : Option Addr) (c : Nat) (hB : Below w0.heap.size w0 w) (hA : AR w0.heap.size w 0 0 A []) :
    Calls Try.prog 78 #[.slice A 0 c, .int .i64 b] w fun e w' => e = .returned (.int .i64 b) ∧ Below w0.heap.size w0 w' ∧ Kept w w' (In 0 0) := by
  have e0 : b + (([] : List (List Int)).flatten.length : Int) = b := by simp
  have h := markSS_calls [] b h0 (by rw [e0]; exact h1) w0 w 0 0 A c hB hA (Nat.zero_le _) (by simp)
  rw [e0] at h
  exact h.mono (fun e w' ⟨h1, _, h3, h4⟩ => ⟨h1, h3, h4⟩)
set_option maxHeartbeats 80000000 in
set_option maxRecDepth 100000 in
theorem markBlock_calls (k : Nat) (r3 r4 r5 r7 : Int) (A1 : Option Addr) (c1 : Nat) (l1 : List Int) (A5 : Option Addr) (c5 : Nat) (l5 : List Int) (A7 : Option Addr) (c7 : Nat) (a b : Int) (m1 m5 : List Int) (w0 w : World) (lo hi : Nat) (hm : laws_markHead.f k l1 r3 r4 r5 l5 r7 a = some (b, m1, m5)) (hb0 : 0 ≤ b) (hb1 : b ≤ 4611686018427387904)
    (hB : Below w0.heap.size w0 w) (h1 : Kd.R (Kd.int .u8) 5 w w0.heap.size (In lo hi) (.slice A1 l1.length c1) l1) (h5 : Kd.R (Kd.int .u8) 5 w w0.heap.size (In lo hi) (.slice A5 l5.length c5) l5)
    (hne : ∀ k_, some k_ = (.slice A1 l1.length c1 : Value).ownBlock → ¬ some k_ = (.slice A5 l5.length c5 : Value).ownBlock) (h7 : AR w0.heap.size w 0 0 A7 []) (hhi : hi ≤ w.heap.size) :
    Calls Try.prog 53 #[.agg #[.slice A1 l1.length c1, .int .i64 r3, .int .i64 r4, .int .i64 r5, .slice A5 l5.length c5, .int .i64 r7, .slice A7 0 c7], .int .i64 a] w fun e w' => e = .returned (.int .i64 b) ∧ Kd.R (Kd.int .u8) 5 w' w0.heap.size (In lo hi) (.slice A1 l1.length c1) m1 ∧ Kd.R (Kd.int .u8) 5 w' w0.heap.size (In lo hi) (.slice A5 l5.length c5) m5 ∧ Below w0.heap.size w0 w' ∧ Kept w w' (In lo hi) := by
  have hu0_ := Try.underlying45
  have hu1_ := Try.underlying27
  have HB := Aside0.mk hB
  have H1 := Aside0.mk h1
  have H5 := Aside0.mk h5
  have H7 := Aside0.mk h7
  have HN := Aside0.mk hne
  have HM := Aside0.mk hm
  have HI := Aside0.mk hhi
  have HP := Aside0.mk hb0
  have HQ := Aside0.mk hb1
  clear hB h1 h5 h7 hne hm hhi hb0 hb1
  go_enter Try.func53, Try.ntmps53
  go_wp2_with (first | ((with_reducible refine gate_dst (N := 2) rfl ?_); refine hold_here ?_))
  refine hold_go ?_
  refine box_event (N := 2) (cs := #[.slice A1 l1.length c1, .int .i64 r3, .int .i64 r4, .int .i64 r5, .slice A5 l5.length c5, .int .i64 r7, .slice A7 0 c7]) (t := 45) ?hgb rfl ?hrb ?_
  case hgb => rfl
  case hrb => first | (go_simp; done) | (go_simp; rfl)
  intro g hg w1 hbox hb
  have H1a := Aside0.mk (Kd.R_below H1.out hb)
  have H5a := Aside0.mk (Kd.R_below H5.out hb)
  have H7a := Aside0.mk (AR.below H7.out hb)
  have HB1 := Aside0.mk (below_then HB.out HB.out.size hb)
  have HK1 := Aside0.mk (Kept.of_below hb (In lo hi))
  have HG := Aside0.mk (show hi ≤ g from by rw [hg]; exact HI.out)
  have HI1 := Aside0.mk (show hi ≤ w1.heap.size from Nat.le_trans HI.out hb.size)
  have BK1 := Aside0.mk hbox
  have hz0 : w1.cell? ⟨g, 0, none⟩ = some (.slice A1 l1.length c1) := (blk_cell BK1.out 0).trans rfl
  have hf0 := blk_frozen BK1.out 0
  have hz1 : w1.cell? ⟨g, 1, none⟩ = some (.int .i64 r3) := (blk_cell BK1.out 1).trans rfl
  have hf1 := blk_frozen BK1.out 1
  have hz2 : w1.cell? ⟨g, 2, none⟩ = some (.int .i64 r4) := (blk_cell BK1.out 2).trans rfl
  have hf2 := blk_frozen BK1.out 2
  have hz3 : w1.cell? ⟨g, 3, none⟩ = some (.int .i64 r5) := (blk_cell BK1.out 3).trans rfl
  have hf3 := blk_frozen BK1.out 3
  have hz4 : w1.cell? ⟨g, 4, none⟩ = some (.slice A5 l5.length c5) := (blk_cell BK1.out 4).trans rfl
  have hf4 := blk_frozen BK1.out 4
  have hz5 : w1.cell? ⟨g, 5, none⟩ = some (.int .i64 r7) := (blk_cell BK1.out 5).trans rfl
  have hf5 := blk_frozen BK1.out 5
  have hz6 : w1.cell? ⟨g, 6, none⟩ = some (.slice A7 0 c7) := (blk_cell BK1.out 6).trans rfl
  have hf6 := blk_frozen BK1.out 6
  clear HB H1 H5 H7 HI hb hbox hg
  go_wp2_with (first | ((with_reducible refine gate_callee (f := 13) rfl ?_); refine hold_here ?_))
  refine hold_go ?_
  refine goesL_ (some 8) rfl rfl Try.func13 (by kernel_rfl) rfl #[.agg #[.slice A1 l1.length c1, .int .i64 r3, .int .i64 r4, .int .i64 r5, .slice A5 l5.length c5, .int .i64 r7], .int .i64 a] rfl (by (try simp only [List.map_toArray, List.map_cons, List.map_nil]); first | done | rfl) ?_
  refine (laws_markHead.calls k (fun k_ => some k_ = (.slice A1 l1.length c1 : Value).ownBlock) (.slice A1 l1.length c1) l1 r3 r4 r5 (fun k_ => some k_ = (.slice A5 l5.length c5 : Value).ownBlock) (.slice A5 l5.length c5) l5 r7 a b m1 m5 w0 _ HB1.out (Kd.R_tight rfl H1a.out) HN.out (Kd.R_tight rfl H5a.out) (fun k_ e1 e2 => HN.out k_ e2 e1) HM.out).mono ?_
  rintro e w2 ⟨rfl, q1, q5, hb2, hk⟩
  refine ⟨_, rfl, ?_⟩
  have hkI : Kept w1 w2 (In lo hi) := ⟨hk.1, fun k h1 h2 => hk.2 k h1 (fun o => h2 (o.elim (fun e => H1a.out.1 k e.symm) (fun e => H5a.out.1 k e.symm)))⟩
  have Q1 := Aside0.mk (B_tight H1a.out q1)
  have Q5 := Aside0.mk (B_tight H5a.out q5)
  have Q7 := Aside0.mk (show AR w0.heap.size w2 0 0 A7 [] from ⟨H7a.out.1, .inl rfl⟩)
  have HB2 := Aside0.mk hb2
  have HK2 := Aside0.mk (HK1.out.then_ hkI (fun k h => .inl h))
  have BK2 := Aside0.mk (blk_keptIn BK1.out hkI (.inr HG.out))
  clear hz0 hf0 hz1 hf1 hz2 hf2 hz3 hf3 hz4 hf4 hz5 hf5 hz6 hf6
  have hzq0 : w2.cell? ⟨g, 0, none⟩ = some (.slice A1 l1.length c1) := (blk_cell BK2.out 0).trans rfl
  have hfq0 := blk_frozen BK2.out 0
  have hzq1 : w2.cell? ⟨g, 1, none⟩ = some (.int .i64 r3) := (blk_cell BK2.out 1).trans rfl
  have hfq1 := blk_frozen BK2.out 1
  have hzq2 : w2.cell? ⟨g, 2, none⟩ = some (.int .i64 r4) := (blk_cell BK2.out 2).trans rfl
  have hfq2 := blk_frozen BK2.out 2
  have hzq3 : w2.cell? ⟨g, 3, none⟩ = some (.int .i64 r5) := (blk_cell BK2.out 3).trans rfl
  have hfq3 := blk_frozen BK2.out 3
  have hzq4 : w2.cell? ⟨g, 4, none⟩ = some (.slice A5 l5.length c5) := (blk_cell BK2.out 4).trans rfl
  have hfq4 := blk_frozen BK2.out 4
  have hzq5 : w2.cell? ⟨g, 5, none⟩ = some (.int .i64 r7) := (blk_cell BK2.out 5).trans rfl
  have hfq5 := blk_frozen BK2.out 5
  have hzq6 : w2.cell? ⟨g, 6, none⟩ = some (.slice A7 0 c7) := (blk_cell BK2.out 6).trans rfl
  have hfq6 := blk_frozen BK2.out 6
  clear q1 q5 hb2 hk hkI H1a H5a H7a HB1 HK1 BK1 HM HN
  go_wp2_with (first | (go_at_call 78; refine hold_here ?_))
  refine hold_go ?_
  refine (markNil_calls b HP.out HQ.out w0 _ A7 c7 HB2.out Q7.out).mono ?_
  rintro e w3 ⟨rfl, hb3, hk3⟩
  have R1 := Aside0.mk (B_kept Q1.out hk3 (.inr (Nat.zero_le _)))
  have R5 := Aside0.mk (B_kept Q5.out hk3 (.inr (Nat.zero_le _)))
  have HB3 := Aside0.mk hb3
  have HK3 := Aside0.mk (HK2.out.then_ hk3 (fun k h => absurd h (by unfold In; omega)))
  clear hzq0 hfq0 hzq1 hfq1 hzq2 hfq2 hzq3 hfq3 hzq4 hfq4 hzq5 hfq5 hzq6 hfq6 hb3 hk3 Q1 Q5 Q7 HB2 HK2 BK2
  go_wp2
  go_ret
  exact ⟨rfl, R1.out, R5.out, HB3.out, HK3.out⟩
set_option maxHeartbeats 80000000 in
set_option maxRecDepth 100000 in
theorem markBlockResult_calls (k : Nat) (r0 r3 r4 r5 r7 : Int) (A1 : Option Addr) (c1 : Nat) (l1 : List Int) (A5 : Option Addr) (c5 : Nat) (l5 : List Int) (A7 : Option Addr) (c7 : Nat) (a b : Int) (m1 m5 : List Int) (w0 w : World) (lo hi : Nat) (hm : laws_markHead.f k l1 r3 r4 r5 l5 r7 a = some (b, m1, m5)) (hb0 : 0 ≤ b) (hb1 : b ≤ 4611686018427387904)
    (hB : Below w0.heap.size w0 w) (h1 : Kd.R (Kd.int .u8) 5 w w0.heap.size (In lo hi) (.slice A1 l1.length c1) l1) (h5 : Kd.R (Kd.int .u8) 5 w w0.heap.size (In lo hi) (.slice A5 l5.length c5) l5)
    (hne : ∀ k_, some k_ = (.slice A1 l1.length c1 : Value).ownBlock → ¬ some k_ = (.slice A5 l5.length c5 : Value).ownBlock) (h7 : AR w0.heap.size w 0 0 A7 []) (hhi : hi ≤ w.heap.size) :
    Calls Try.prog 25 #[.agg #[.int .i64 r0, .slice A1 l1.length c1, .int .i64 r3, .int .i64 r4, .int .i64 r5, .slice A5 l5.length c5, .int .i64 r7, .slice A7 0 c7], .int .i64 a] w fun e w' => e = .returned (.int .i64 b) ∧ Kd.R (Kd.int .u8) 5 w' w0.heap.size (In lo hi) (.slice A1 l1.length c1) m1 ∧ Kd.R (Kd.int .u8) 5 w' w0.heap.size (In lo hi) (.slice A5 l5.length c5) m5 ∧ Below w0.heap.size w0 w' ∧ Kept w w' (In lo hi) := by
  have hu0_ := Try.underlying47
  have hu1_ := Try.underlying45
  have HB := Aside0.mk hB
  have H1 := Aside0.mk h1
  have H5 := Aside0.mk h5
  have H7 := Aside0.mk h7
  have HN := Aside0.mk hne
  have HM := Aside0.mk hm
  have HI := Aside0.mk hhi
  have HP := Aside0.mk hb0
  have HQ := Aside0.mk hb1
  clear hB h1 h5 h7 hne hm hhi hb0 hb1
  go_enter Try.func25, Try.ntmps25
  go_wp2_with (first | ((with_reducible refine gate_dst (N := 2) rfl ?_); refine hold_here ?_))
  refine hold_go ?_
  refine box_event (N := 2) (cs := #[.int .i64 r0, .slice A1 l1.length c1, .int .i64 r3, .int .i64 r4, .int .i64 r5, .slice A5 l5.length c5, .int .i64 r7, .slice A7 0 c7]) (t := 47) ?hgb rfl ?hrb ?_
  case hgb => rfl
  case hrb => first | (go_simp; done) | (go_simp; rfl)
  intro g hg w1 hbox hb
  have H1a := Aside0.mk (Kd.R_below H1.out hb)
  have H5a := Aside0.mk (Kd.R_below H5.out hb)
  have H7a := Aside0.mk (AR.below H7.out hb)
  have HB1 := Aside0.mk (below_then HB.out HB.out.size hb)
  have HK1 := Aside0.mk (Kept.of_below hb (In lo hi))
  have HG := Aside0.mk (show hi ≤ g from by rw [hg]; exact HI.out)
  have HI1 := Aside0.mk (show hi ≤ w1.heap.size from Nat.le_trans HI.out hb.size)
  have BK1 := Aside0.mk hbox
  have hz0 : w1.cell? ⟨g, 0, none⟩ = some (.int .i64 r0) := (blk_cell BK1.out 0).trans rfl
  have hf0 := blk_frozen BK1.out 0
  have hz1 : w1.cell? ⟨g, 1, none⟩ = some (.slice A1 l1.length c1) := (blk_cell BK1.out 1).trans rfl
  have hf1 := blk_frozen BK1.out 1
  have hz2 : w1.cell? ⟨g, 2, none⟩ = some (.int .i64 r3) := (blk_cell BK1.out 2).trans rfl
  have hf2 := blk_frozen BK1.out 2
  have hz3 : w1.cell? ⟨g, 3, none⟩ = some (.int .i64 r4) := (blk_cell BK1.out 3).trans rfl
  have hf3 := blk_frozen BK1.out 3
  have hz4 : w1.cell? ⟨g, 4, none⟩ = some (.int .i64 r5) := (blk_cell BK1.out 4).trans rfl
  have hf4 := blk_frozen BK1.out 4
  have hz5 : w1.cell? ⟨g, 5, none⟩ = some (.slice A5 l5.length c5) := (blk_cell BK1.out 5).trans rfl
  have hf5 := blk_frozen BK1.out 5
  have hz6 : w1.cell? ⟨g, 6, none⟩ = some (.int .i64 r7) := (blk_cell BK1.out 6).trans rfl
  have hf6 := blk_frozen BK1.out 6
  have hz7 : w1.cell? ⟨g, 7, none⟩ = some (.slice A7 0 c7) := (blk_cell BK1.out 7).trans rfl
  have hf7 := blk_frozen BK1.out 7
  clear HB H1 H5 H7 HI hb hbox hg
  go_wp2_with (first | ((with_reducible refine gate_callee (f := 53) rfl ?_); refine hold_here ?_))
  refine hold_go ?_
  refine goesL_ (some 8) rfl rfl Try.func53 (by kernel_rfl) rfl #[.agg #[.slice A1 l1.length c1, .int .i64 r3, .int .i64 r4, .int .i64 r5, .slice A5 l5.length c5, .int .i64 r7, .slice A7 0 c7], .int .i64 a] rfl (by (try simp only [List.map_toArray, List.map_cons, List.map_nil]); first | done | rfl) ?_
  refine (markBlock_calls k r3 r4 r5 r7 A1 c1 l1 A5 c5 l5 A7 c7 a b m1 m5 w0 _ lo hi HM.out HP.out HQ.out HB1.out H1a.out H5a.out HN.out H7a.out HI1.out).mono ?_
  rintro e w2 ⟨rfl, q1, q5, hb2, hk⟩
  refine ⟨_, rfl, ?_⟩
  have Q1 := Aside0.mk q1
  have Q5 := Aside0.mk q5
  have HB2 := Aside0.mk hb2
  have HK2 := Aside0.mk (HK1.out.then_ hk (fun k h => .inl h))
  clear hz0 hf0 hz1 hf1 hz2 hf2 hz3 hf3 hz4 hf4 hz5 hf5 hz6 hf6 hz7 hf7 q1 q5 hb2 hk H1a H5a H7a HB1 HK1 BK1 HM HN
  go_wp2
  go_ret
  exact ⟨rfl, Q1.out, Q5.out, HB2.out, HK2.out⟩

end Go.Proofs.Ytcgeajjkfoignaa.S

/- The walk over the law FnExactFirstBlock: the program and the reference are called, compared, and what they hold is marked. No condition beyond those in the statements. -/
set_option linter.unusedVariables false
set_option linter.unusedSimpArgs false
namespace Go.Proofs.Ytcgeajjkfoignaa.S
open Go Go.RowKit Go.Proofs.YtcgeajjkfoignaaW.PrintWords Go.Proofs.YtcgeajjkfoignaaW.PrintLast Go.Proofs.YtcgeajjkfoignaaW.PrintMore Go.Proofs.Ytcgeajjkfoignaa.Base
attribute [local go_sem] max2_int min2_int max_two min_two max_three min_three max_four min_four

theorem heldBlockResult_len (k : Nat) (r0 r3 r4 r5 r7 : Int) (A1 : Option Addr) (c1 : Nat) (m1 : List Int) (n1 : Nat) (hn1 : m1.length = n1) (A5 : Option Addr) (c5 : Nat) (m5 : List Int) (n5 : Nat) (hn5 : m5.length = n5) (A7 : Option Addr) (c7 : Nat) (a r : Int) (w : World) (hr1 : Kd.C (Kd.int .u8) w A1 m1.length m1) (hc1 : n1 ≤ c1) (hr5 : Kd.C (Kd.int .u8) w A5 m5.length m5) (hc5 : n5 ≤ c5) (hr7 : Kd.C (Kd.slice 5 (Kd.int .u8)) w A7 0 []) (h : laws_heldBlockResult.f k r0 m1 r3 r4 r5 m5 r7 [] a = some r) :
    Calls Try.prog 26 #[.agg #[.int .i64 r0, .slice A1 n1 c1, .int .i64 r3, .int .i64 r4, .int .i64 r5, .slice A5 n5 c5, .int .i64 r7, .slice A7 0 c7], .int .i64 a] w fun e w' => e = .returned (.int .i64 r) ∧ Below w.heap.size w w' := by
  subst hn1
  subst hn5
  exact laws_heldBlockResult.calls k r0 A1 c1 m1 r3 r4 r5 A5 c5 m5 r7 A7 c7 [] a r w hr1 hc1 hr5 hc5 hr7 (Nat.zero_le _) h
set_option maxHeartbeats 80000000 in
set_option maxRecDepth 100000 in
theorem law_FirstBlock (a0 r0 r3 r4 r5 r7 : Int) (rb1 rb5 : List Int) (b : Int) (m1 m5 : List Int) (w : World)
    (keqr khr kimpl km kspec : Nat) (h_spec : spec_FirstBlock.f kspec a0 = some (r0, rb1, r3, r4, r5, rb5, r7, [])) (h_impl : impl_FirstBlock.f kimpl a0 = some (r0, rb1, r3, r4, r5, rb5, r7, [])) (h_eqr : laws_eqBlockResult.f keqr r0 rb1 r3 r4 r5 rb5 r7 [] r0 rb1 r3 r4 r5 rb5 r7 [] = some true) (h_m : laws_markHead.f km rb1 r3 r4 r5 rb5 r7 1 = some (b, m1, m5)) (h_b0 : 0 ≤ b) (h_b1 : b ≤ 4611686018427387904) (h_n1 : m1.length = rb1.length) (h_n5 : m5.length = rb5.length) (h_hr : laws_heldBlockResult.f khr r0 m1 r3 r4 r5 m5 r7 [] 1 = some b) :
    Calls Try.prog 5 #[.int .i64 a0] w fun e w' => e = .returned (.bool true) ∧ Below w.heap.size w w' := by
  have hu_ := Try.underlying47
  have H_spec := Aside0.mk h_spec
  have H_impl := Aside0.mk h_impl
  have H_eqr := Aside0.mk h_eqr
  have H_m := Aside0.mk h_m
  have H_b0 := Aside0.mk h_b0
  have H_b1 := Aside0.mk h_b1
  have H_n1 := Aside0.mk h_n1
  have H_n5 := Aside0.mk h_n5
  have H_hr := Aside0.mk h_hr
  have HB := Aside0.mk (Below.refl w.heap.size w)
  have cz_ : decide (b < 0) = false := decide_eq_false (by omega)
  clear h_spec h_impl h_eqr h_m h_b0 h_b1 h_n1 h_n5 h_hr
  go_enter Try.func5, Try.ntmps5
  go_wp2_with (first | (go_at_call 22; refine hold_here ?_))
  refine hold_go ?_
  refine (spec_FirstBlock.calls _ a0 r0 rb1 r3 r4 r5 rb5 r7 [] _ H_spec.out).mono ?_
  rintro e w1_ ⟨v1, v5, v7, rfl, ho1, ho5, ho7, hb⟩
  have m_HB := Aside0.mk (below_step (by repeat (first | (with_reducible first | exact HB.out | apply below_alloc | apply pw_below_drewN | apply below_drew1) | exact HB.out)) hb)
  clear HB 
  have HB := m_HB
  clear m_HB 
  have Z1 := Aside0.mk (show w.heap.size ≤ w1_.heap.size from hb.size)
  obtain ⟨A_W1, c_W1, ev_, hA_W1⟩ := B_of_R (base := w.heap.size) ho1 (show w.heap.size ≤ w.heap.size from (by have := Z1.out; omega))
  subst ev_
  have W1 := Aside0.mk (show Kd.R (Kd.int .u8) 5 w1_ w.heap.size (In w.heap.size w1_.heap.size) (.slice A_W1 rb1.length c_W1) rb1 from hA_W1)
  clear hA_W1 ho1
  obtain ⟨A_W5, c_W5, ev_, hA_W5⟩ := B_of_R (base := w.heap.size) ho5 (show w.heap.size ≤ w.heap.size from (by have := Z1.out; omega))
  subst ev_
  have W5 := Aside0.mk (show Kd.R (Kd.int .u8) 5 w1_ w.heap.size (In w.heap.size w1_.heap.size) (.slice A_W5 rb5.length c_W5) rb5 from hA_W5)
  clear hA_W5 ho5
  obtain ⟨A_W7, c_W7, ev_, hc_W7, hA_W7⟩ := AR_of_S (base := w.heap.size) ho7 (show w.heap.size ≤ w.heap.size from (by have := Z1.out; omega))
  subst ev_
  have HC_W7 := Aside0.mk hc_W7
  have W7 := Aside0.mk (show AR w.heap.size w1_ w.heap.size w1_.heap.size A_W7 ([] : List (List Int)) from hA_W7)
  clear hc_W7 hA_W7 ho7
  clear hb
  go_wp2_with (first | ((with_reducible refine gate_dst (N := 3) rfl ?_); refine hold_here ?_))
  refine hold_go ?_
  refine box_event (N := 3) (cs := #[.int .i64 0, .slice none 0 0, .int .i64 0, .int .i64 0, .int .i64 0, .slice none 0 0, .int .i64 0, .slice none 0 0]) (t := 47) ?hgb rfl ?hrb ?_
  case hgb => rfl
  case hrb => first | (go_simp; done) | (go_simp; rfl)
  intro g3_ hg w2_ hbox hb
  have m_W1 := Aside0.mk (Kd.R_below (by (with_reducible repeat (first | apply Kd.R_alloc | apply Kd.R_drewN | apply Kd.R_drew)); exact W1.out) hb)
  have m_W5 := Aside0.mk (Kd.R_below (by (with_reducible repeat (first | apply Kd.R_alloc | apply Kd.R_drewN | apply Kd.R_drew)); exact W5.out) hb)
  have m_W7 := Aside0.mk (AR.below (by (with_reducible repeat (first | refine AR.alloc ?_ _ | refine AR.drewN ?_ _ | refine AR.drew ?_)); exact W7.out) hb)
  have m_HB := Aside0.mk (below_step (by repeat (first | (with_reducible first | exact HB.out | apply below_alloc | apply pw_below_drewN | apply below_drew1) | exact HB.out)) hb)
  clear HB W1 W5 W7
  have HB := m_HB
  have W1 := m_W1
  have W5 := m_W5
  have W7 := m_W7
  clear m_HB m_W1 m_W5 m_W7
  have Z2 := Aside0.mk (show w1_.heap.size ≤ w2_.heap.size from hb.size)
  have BK3 := Aside0.mk hbox
  have GE3 := Aside0.mk (show g3_ = w1_.heap.size from hg)
  have GL3 := Aside0.mk (show g3_ < w2_.heap.size from blk_lt hbox)
  clear hb hbox hg
  go_wp2_with (first | ((with_reducible refine gate_store (t := 47) (p := 3) (v := .tmp 9) rfl ?_); refine hold_here ?_))
  refine hold_go ?_
  refine row_store rfl 47 (.tmp 3) (.tmp 9) rfl g3_ #[.int .i64 r0, .slice A_W1 rb1.length c_W1, .int .i64 r3, .int .i64 r4, .int .i64 r5, .slice A_W5 rb5.length c_W5, .int .i64 r7, .slice A_W7 0 c_W7] rfl rfl 47 _ (by (with_reducible repeat (first | refine blk_drewN ?_ _ | refine blk_drew ?_ | refine blk_alloc ?_ _)); exact BK3.out) ?hi ?ho ?h1 rfl (by repeat (first | (with_reducible first | exact HB.out | apply below_alloc | apply pw_below_drewN | apply below_drew1) | exact HB.out)) (show w.heap.size ≤ g3_ from (by have := Z1.out; have := Z2.out; have := GE3.out; have := GL3.out; omega)) ?_
  case hi => kernel_rfl
  case ho => rfl
  case h1 => first | rfl | (simp [Value.oneCell']; done) | (go_simp; done)
  intro w3_ bo hk hb2
  clear BK3
  have m_W1 := Aside0.mk (B_kept (by (with_reducible repeat (first | apply Kd.R_alloc | apply Kd.R_drewN | apply Kd.R_drew)); exact W1.out) hk (by have := Z1.out; have := Z2.out; have := GE3.out; have := GL3.out; omega))
  have m_W5 := Aside0.mk (B_kept (by (with_reducible repeat (first | apply Kd.R_alloc | apply Kd.R_drewN | apply Kd.R_drew)); exact W5.out) hk (by have := Z1.out; have := Z2.out; have := GE3.out; have := GL3.out; omega))
  have m_W7 := Aside0.mk (AR.kept (by (with_reducible repeat (first | refine AR.alloc ?_ _ | refine AR.drewN ?_ _ | refine AR.drew ?_)); exact W7.out) hk (by have := Z1.out; have := Z2.out; have := GE3.out; have := GL3.out; omega))
  have m_HB := Aside0.mk hb2
  clear HB W1 W5 W7
  have HB := m_HB
  have W1 := m_W1
  have W5 := m_W5
  have W7 := m_W7
  clear m_HB m_W1 m_W5 m_W7
  have Z3 := Aside0.mk (show w2_.heap.size ≤ w3_.heap.size from hk.1)
  have BK3 := Aside0.mk bo
  clear bo hk hb2
  have hz_BK3_0 : w3_.cell? ⟨g3_, 0, none⟩ = some (.int .i64 r0) := (blk_cell BK3.out 0).trans rfl
  have hz_BK3_1 : w3_.cell? ⟨g3_, 1, none⟩ = some (.slice A_W1 rb1.length c_W1) := (blk_cell BK3.out 1).trans rfl
  have hz_BK3_2 : w3_.cell? ⟨g3_, 2, none⟩ = some (.int .i64 r3) := (blk_cell BK3.out 2).trans rfl
  have hz_BK3_3 : w3_.cell? ⟨g3_, 3, none⟩ = some (.int .i64 r4) := (blk_cell BK3.out 3).trans rfl
  have hz_BK3_4 : w3_.cell? ⟨g3_, 4, none⟩ = some (.int .i64 r5) := (blk_cell BK3.out 4).trans rfl
  have hz_BK3_5 : w3_.cell? ⟨g3_, 5, none⟩ = some (.slice A_W5 rb5.length c_W5) := (blk_cell BK3.out 5).trans rfl
  have hz_BK3_6 : w3_.cell? ⟨g3_, 6, none⟩ = some (.int .i64 r7) := (blk_cell BK3.out 6).trans rfl
  have hz_BK3_7 : w3_.cell? ⟨g3_, 7, none⟩ = some (.slice A_W7 0 c_W7) := (blk_cell BK3.out 7).trans rfl
  go_wp2_with (first | (go_at_call 23; refine hold_here ?_))
  refine hold_go ?_
  refine (impl_FirstBlock.calls _ a0 r0 rb1 r3 r4 r5 rb5 r7 [] _ H_impl.out).mono ?_
  rintro e w4_ ⟨v1, v5, v7, rfl, ho1, ho5, ho7, hb⟩
  have m_W1 := Aside0.mk (Kd.R_below (by (with_reducible repeat (first | apply Kd.R_alloc | apply Kd.R_drewN | apply Kd.R_drew)); exact W1.out) hb)
  have m_W5 := Aside0.mk (Kd.R_below (by (with_reducible repeat (first | apply Kd.R_alloc | apply Kd.R_drewN | apply Kd.R_drew)); exact W5.out) hb)
  have m_W7 := Aside0.mk (AR.below (by (with_reducible repeat (first | refine AR.alloc ?_ _ | refine AR.drewN ?_ _ | refine AR.drew ?_)); exact W7.out) hb)
  have m_BK3 := Aside0.mk (blk_below (by (with_reducible repeat (first | refine blk_drewN ?_ _ | refine blk_drew ?_ | refine blk_alloc ?_ _)); exact BK3.out) hb)
  have m_HB := Aside0.mk (below_step (by repeat (first | (with_reducible first | exact HB.out | apply below_alloc | apply pw_below_drewN | apply below_drew1) | exact HB.out)) hb)
  clear hz_BK3_0 hz_BK3_1 hz_BK3_2 hz_BK3_3 hz_BK3_4 hz_BK3_5 hz_BK3_6 hz_BK3_7
  clear HB W1 W5 W7 BK3
  have HB := m_HB
  have W1 := m_W1
  have W5 := m_W5
  have W7 := m_W7
  have BK3 := m_BK3
  clear m_HB m_W1 m_W5 m_W7 m_BK3
  have Z4 := Aside0.mk (show w3_.heap.size ≤ w4_.heap.size from hb.size)
  have HN_ := Aside0.mk (show ∀ k_, some k_ = (v1 : Value).ownBlock → ¬ some k_ = (v5 : Value).ownBlock from fun k_ e_ => ho1.1 k_ e_.symm)
  obtain ⟨A_G1, c_G1, ev_, hA_G1⟩ := B_of_R (base := w.heap.size) ho1 (show w.heap.size ≤ w3_.heap.size from (by have := Z1.out; have := Z2.out; have := Z3.out; have := Z4.out; have := GE3.out; have := GL3.out; omega))
  subst ev_
  have G1 := Aside0.mk (show Kd.R (Kd.int .u8) 5 w4_ w.heap.size (In w3_.heap.size w4_.heap.size) (.slice A_G1 rb1.length c_G1) rb1 from hA_G1)
  clear hA_G1 ho1
  obtain ⟨A_G5, c_G5, ev_, hA_G5⟩ := B_of_R (base := w.heap.size) ho5 (show w.heap.size ≤ w3_.heap.size from (by have := Z1.out; have := Z2.out; have := Z3.out; have := Z4.out; have := GE3.out; have := GL3.out; omega))
  subst ev_
  have G5 := Aside0.mk (show Kd.R (Kd.int .u8) 5 w4_ w.heap.size (In w3_.heap.size w4_.heap.size) (.slice A_G5 rb5.length c_G5) rb5 from hA_G5)
  clear hA_G5 ho5
  obtain ⟨A_G7, c_G7, ev_, hc_G7, hA_G7⟩ := AR_of_S (base := w.heap.size) ho7 (show w.heap.size ≤ w3_.heap.size from (by have := Z1.out; have := Z2.out; have := Z3.out; have := Z4.out; have := GE3.out; have := GL3.out; omega))
  subst ev_
  have HC_G7 := Aside0.mk hc_G7
  have G7 := Aside0.mk (show AR w.heap.size w4_ w3_.heap.size w4_.heap.size A_G7 ([] : List (List Int)) from hA_G7)
  clear hc_G7 hA_G7 ho7
  clear hb
  have hz_BK3_0 : w4_.cell? ⟨g3_, 0, none⟩ = some (.int .i64 r0) := (blk_cell BK3.out 0).trans rfl
  have hz_BK3_1 : w4_.cell? ⟨g3_, 1, none⟩ = some (.slice A_W1 rb1.length c_W1) := (blk_cell BK3.out 1).trans rfl
  have hz_BK3_2 : w4_.cell? ⟨g3_, 2, none⟩ = some (.int .i64 r3) := (blk_cell BK3.out 2).trans rfl
  have hz_BK3_3 : w4_.cell? ⟨g3_, 3, none⟩ = some (.int .i64 r4) := (blk_cell BK3.out 3).trans rfl
  have hz_BK3_4 : w4_.cell? ⟨g3_, 4, none⟩ = some (.int .i64 r5) := (blk_cell BK3.out 4).trans rfl
  have hz_BK3_5 : w4_.cell? ⟨g3_, 5, none⟩ = some (.slice A_W5 rb5.length c_W5) := (blk_cell BK3.out 5).trans rfl
  have hz_BK3_6 : w4_.cell? ⟨g3_, 6, none⟩ = some (.int .i64 r7) := (blk_cell BK3.out 6).trans rfl
  have hz_BK3_7 : w4_.cell? ⟨g3_, 7, none⟩ = some (.slice A_W7 0 c_W7) := (blk_cell BK3.out 7).trans rfl
  go_wp2_with (first | ((with_reducible refine gate_dst (N := 4) rfl ?_); refine hold_here ?_))
  refine hold_go ?_
  refine box_event (N := 4) (cs := #[.int .i64 0, .slice none 0 0, .int .i64 0, .int .i64 0, .int .i64 0, .slice none 0 0, .int .i64 0, .slice none 0 0]) (t := 47) ?hgb rfl ?hrb ?_
  case hgb => rfl
  case hrb => first | (go_simp; done) | (go_simp; rfl)
  intro g4_ hg w5_ hbox hb
  have m_W1 := Aside0.mk (Kd.R_below (by (with_reducible repeat (first | apply Kd.R_alloc | apply Kd.R_drewN | apply Kd.R_drew)); exact W1.out) hb)
  have m_W5 := Aside0.mk (Kd.R_below (by (with_reducible repeat (first | apply Kd.R_alloc | apply Kd.R_drewN | apply Kd.R_drew)); exact W5.out) hb)
  have m_W7 := Aside0.mk (AR.below (by (with_reducible repeat (first | refine AR.alloc ?_ _ | refine AR.drewN ?_ _ | refine AR.drew ?_)); exact W7.out) hb)
  have m_BK3 := Aside0.mk (blk_below (by (with_reducible repeat (first | refine blk_drewN ?_ _ | refine blk_drew ?_ | refine blk_alloc ?_ _)); exact BK3.out) hb)
  have m_G1 := Aside0.mk (Kd.R_below (by (with_reducible repeat (first | apply Kd.R_alloc | apply Kd.R_drewN | apply Kd.R_drew)); exact G1.out) hb)
  have m_G5 := Aside0.mk (Kd.R_below (by (with_reducible repeat (first | apply Kd.R_alloc | apply Kd.R_drewN | apply Kd.R_drew)); exact G5.out) hb)
  have m_G7 := Aside0.mk (AR.below (by (with_reducible repeat (first | refine AR.alloc ?_ _ | refine AR.drewN ?_ _ | refine AR.drew ?_)); exact G7.out) hb)
  have m_HB := Aside0.mk (below_step (by repeat (first | (with_reducible first | exact HB.out | apply below_alloc | apply pw_below_drewN | apply below_drew1) | exact HB.out)) hb)
  clear hz_BK3_0 hz_BK3_1 hz_BK3_2 hz_BK3_3 hz_BK3_4 hz_BK3_5 hz_BK3_6 hz_BK3_7
  clear HB W1 W5 W7 BK3 G1 G5 G7
  have HB := m_HB
  have W1 := m_W1
  have W5 := m_W5
  have W7 := m_W7
  have BK3 := m_BK3
  have G1 := m_G1
  have G5 := m_G5
  have G7 := m_G7
  clear m_HB m_W1 m_W5 m_W7 m_BK3 m_G1 m_G5 m_G7
  have Z5 := Aside0.mk (show w4_.heap.size ≤ w5_.heap.size from hb.size)
  have BK4 := Aside0.mk hbox
  have GE4 := Aside0.mk (show g4_ = w4_.heap.size from hg)
  have GL4 := Aside0.mk (show g4_ < w5_.heap.size from blk_lt hbox)
  clear hb hbox hg
  go_wp2_with (first | ((with_reducible refine gate_store (t := 47) (p := 4) (v := .tmp 11) rfl ?_); refine hold_here ?_))
  refine hold_go ?_
  refine row_store rfl 47 (.tmp 4) (.tmp 11) rfl g4_ #[.int .i64 r0, .slice A_G1 rb1.length c_G1, .int .i64 r3, .int .i64 r4, .int .i64 r5, .slice A_G5 rb5.length c_G5, .int .i64 r7, .slice A_G7 0 c_G7] rfl rfl 47 _ (by (with_reducible repeat (first | refine blk_drewN ?_ _ | refine blk_drew ?_ | refine blk_alloc ?_ _)); exact BK4.out) ?hi ?ho ?h1 rfl (by repeat (first | (with_reducible first | exact HB.out | apply below_alloc | apply pw_below_drewN | apply below_drew1) | exact HB.out)) (show w.heap.size ≤ g4_ from (by have := Z1.out; have := Z2.out; have := Z3.out; have := Z4.out; have := Z5.out; have := GE3.out; have := GL3.out; have := GE4.out; have := GL4.out; omega)) ?_
  case hi => kernel_rfl
  case ho => rfl
  case h1 => first | rfl | (simp [Value.oneCell']; done) | (go_simp; done)
  intro w6_ bo hk hb2
  clear BK4
  have m_W1 := Aside0.mk (B_kept (by (with_reducible repeat (first | apply Kd.R_alloc | apply Kd.R_drewN | apply Kd.R_drew)); exact W1.out) hk (by have := Z1.out; have := Z2.out; have := Z3.out; have := Z4.out; have := Z5.out; have := GE3.out; have := GL3.out; have := GE4.out; have := GL4.out; omega))
  have m_W5 := Aside0.mk (B_kept (by (with_reducible repeat (first | apply Kd.R_alloc | apply Kd.R_drewN | apply Kd.R_drew)); exact W5.out) hk (by have := Z1.out; have := Z2.out; have := Z3.out; have := Z4.out; have := Z5.out; have := GE3.out; have := GL3.out; have := GE4.out; have := GL4.out; omega))
  have m_W7 := Aside0.mk (AR.kept (by (with_reducible repeat (first | refine AR.alloc ?_ _ | refine AR.drewN ?_ _ | refine AR.drew ?_)); exact W7.out) hk (by have := Z1.out; have := Z2.out; have := Z3.out; have := Z4.out; have := Z5.out; have := GE3.out; have := GL3.out; have := GE4.out; have := GL4.out; omega))
  have m_BK3 := Aside0.mk (blk_keptIn (by (with_reducible repeat (first | refine blk_drewN ?_ _ | refine blk_drew ?_ | refine blk_alloc ?_ _)); exact BK3.out) hk (by have := Z1.out; have := Z2.out; have := Z3.out; have := Z4.out; have := Z5.out; have := GE3.out; have := GL3.out; have := GE4.out; have := GL4.out; omega))
  have m_G1 := Aside0.mk (B_kept (by (with_reducible repeat (first | apply Kd.R_alloc | apply Kd.R_drewN | apply Kd.R_drew)); exact G1.out) hk (by have := Z1.out; have := Z2.out; have := Z3.out; have := Z4.out; have := Z5.out; have := GE3.out; have := GL3.out; have := GE4.out; have := GL4.out; omega))
  have m_G5 := Aside0.mk (B_kept (by (with_reducible repeat (first | apply Kd.R_alloc | apply Kd.R_drewN | apply Kd.R_drew)); exact G5.out) hk (by have := Z1.out; have := Z2.out; have := Z3.out; have := Z4.out; have := Z5.out; have := GE3.out; have := GL3.out; have := GE4.out; have := GL4.out; omega))
  have m_G7 := Aside0.mk (AR.kept (by (with_reducible repeat (first | refine AR.alloc ?_ _ | refine AR.drewN ?_ _ | refine AR.drew ?_)); exact G7.out) hk (by have := Z1.out; have := Z2.out; have := Z3.out; have := Z4.out; have := Z5.out; have := GE3.out; have := GL3.out; have := GE4.out; have := GL4.out; omega))
  have m_HB := Aside0.mk hb2
  clear HB W1 W5 W7 BK3 G1 G5 G7
  have HB := m_HB
  have W1 := m_W1
  have W5 := m_W5
  have W7 := m_W7
  have BK3 := m_BK3
  have G1 := m_G1
  have G5 := m_G5
  have G7 := m_G7
  clear m_HB m_W1 m_W5 m_W7 m_BK3 m_G1 m_G5 m_G7
  have Z6 := Aside0.mk (show w5_.heap.size ≤ w6_.heap.size from hk.1)
  have BK4 := Aside0.mk bo
  clear bo hk hb2
  have hz_BK3_0 : w6_.cell? ⟨g3_, 0, none⟩ = some (.int .i64 r0) := (blk_cell BK3.out 0).trans rfl
  have hz_BK3_1 : w6_.cell? ⟨g3_, 1, none⟩ = some (.slice A_W1 rb1.length c_W1) := (blk_cell BK3.out 1).trans rfl
  have hz_BK3_2 : w6_.cell? ⟨g3_, 2, none⟩ = some (.int .i64 r3) := (blk_cell BK3.out 2).trans rfl
  have hz_BK3_3 : w6_.cell? ⟨g3_, 3, none⟩ = some (.int .i64 r4) := (blk_cell BK3.out 3).trans rfl
  have hz_BK3_4 : w6_.cell? ⟨g3_, 4, none⟩ = some (.int .i64 r5) := (blk_cell BK3.out 4).trans rfl
  have hz_BK3_5 : w6_.cell? ⟨g3_, 5, none⟩ = some (.slice A_W5 rb5.length c_W5) := (blk_cell BK3.out 5).trans rfl
  have hz_BK3_6 : w6_.cell? ⟨g3_, 6, none⟩ = some (.int .i64 r7) := (blk_cell BK3.out 6).trans rfl
  have hz_BK3_7 : w6_.cell? ⟨g3_, 7, none⟩ = some (.slice A_W7 0 c_W7) := (blk_cell BK3.out 7).trans rfl
  have hz_BK4_0 : w6_.cell? ⟨g4_, 0, none⟩ = some (.int .i64 r0) := (blk_cell BK4.out 0).trans rfl
  have hz_BK4_1 : w6_.cell? ⟨g4_, 1, none⟩ = some (.slice A_G1 rb1.length c_G1) := (blk_cell BK4.out 1).trans rfl
  have hz_BK4_2 : w6_.cell? ⟨g4_, 2, none⟩ = some (.int .i64 r3) := (blk_cell BK4.out 2).trans rfl
  have hz_BK4_3 : w6_.cell? ⟨g4_, 3, none⟩ = some (.int .i64 r4) := (blk_cell BK4.out 3).trans rfl
  have hz_BK4_4 : w6_.cell? ⟨g4_, 4, none⟩ = some (.int .i64 r5) := (blk_cell BK4.out 4).trans rfl
  have hz_BK4_5 : w6_.cell? ⟨g4_, 5, none⟩ = some (.slice A_G5 rb5.length c_G5) := (blk_cell BK4.out 5).trans rfl
  have hz_BK4_6 : w6_.cell? ⟨g4_, 6, none⟩ = some (.int .i64 r7) := (blk_cell BK4.out 6).trans rfl
  have hz_BK4_7 : w6_.cell? ⟨g4_, 7, none⟩ = some (.slice A_G7 0 c_G7) := (blk_cell BK4.out 7).trans rfl
  go_wp2_with (first | (go_at_call 24; refine hold_here ?_))
  refine hold_go ?_
  refine (laws_eqBlockResult.calls _ r0 A_G1 c_G1 rb1 r3 r4 r5 A_G5 c_G5 rb5 r7 A_G7 c_G7 [] r0 A_W1 c_W1 rb1 r3 r4 r5 A_W5 c_W5 rb5 r7 A_W7 c_W7 [] true _ ?s1 ?s2 ?s3 ?s4 ?s5 ?s6 ?s7 ?s8 ?s9 ?s10 ?s11 ?s12 H_eqr.out).mono ?_
  case s1 => exact (Kd.R_reads' (by (with_reducible repeat (first | apply Kd.R_alloc | apply Kd.R_drewN | apply Kd.R_drew)); exact G1.out)).2.2
  case s2 => exact (Kd.R_reads' G1.out).2.1
  case s3 => exact (Kd.R_reads' (by (with_reducible repeat (first | apply Kd.R_alloc | apply Kd.R_drewN | apply Kd.R_drew)); exact G5.out)).2.2
  case s4 => exact (Kd.R_reads' G5.out).2.1
  case s5 => exact Kd.F_now (AR.foot (by (with_reducible repeat (first | refine AR.alloc ?_ _ | refine AR.drewN ?_ _ | refine AR.drew ?_)); exact G7.out))
  case s6 => exact HC_G7.out
  case s7 => exact (Kd.R_reads' (by (with_reducible repeat (first | apply Kd.R_alloc | apply Kd.R_drewN | apply Kd.R_drew)); exact W1.out)).2.2
  case s8 => exact (Kd.R_reads' W1.out).2.1
  case s9 => exact (Kd.R_reads' (by (with_reducible repeat (first | apply Kd.R_alloc | apply Kd.R_drewN | apply Kd.R_drew)); exact W5.out)).2.2
  case s10 => exact (Kd.R_reads' W5.out).2.1
  case s11 => exact Kd.F_now (AR.foot (by (with_reducible repeat (first | refine AR.alloc ?_ _ | refine AR.drewN ?_ _ | refine AR.drew ?_)); exact W7.out))
  case s12 => exact HC_W7.out
  rintro e w7_ ⟨rfl, hb⟩
  have m_W1 := Aside0.mk (Kd.R_below (by (with_reducible repeat (first | apply Kd.R_alloc | apply Kd.R_drewN | apply Kd.R_drew)); exact W1.out) hb)
  have m_W5 := Aside0.mk (Kd.R_below (by (with_reducible repeat (first | apply Kd.R_alloc | apply Kd.R_drewN | apply Kd.R_drew)); exact W5.out) hb)
  have m_W7 := Aside0.mk (AR.below (by (with_reducible repeat (first | refine AR.alloc ?_ _ | refine AR.drewN ?_ _ | refine AR.drew ?_)); exact W7.out) hb)
  have m_BK3 := Aside0.mk (blk_below (by (with_reducible repeat (first | refine blk_drewN ?_ _ | refine blk_drew ?_ | refine blk_alloc ?_ _)); exact BK3.out) hb)
  have m_G1 := Aside0.mk (Kd.R_below (by (with_reducible repeat (first | apply Kd.R_alloc | apply Kd.R_drewN | apply Kd.R_drew)); exact G1.out) hb)
  have m_G5 := Aside0.mk (Kd.R_below (by (with_reducible repeat (first | apply Kd.R_alloc | apply Kd.R_drewN | apply Kd.R_drew)); exact G5.out) hb)
  have m_G7 := Aside0.mk (AR.below (by (with_reducible repeat (first | refine AR.alloc ?_ _ | refine AR.drewN ?_ _ | refine AR.drew ?_)); exact G7.out) hb)
  have m_BK4 := Aside0.mk (blk_below (by (with_reducible repeat (first | refine blk_drewN ?_ _ | refine blk_drew ?_ | refine blk_alloc ?_ _)); exact BK4.out) hb)
  have m_HB := Aside0.mk (below_step (by repeat (first | (with_reducible first | exact HB.out | apply below_alloc | apply pw_below_drewN | apply below_drew1) | exact HB.out)) hb)
  clear hz_BK3_0 hz_BK3_1 hz_BK3_2 hz_BK3_3 hz_BK3_4 hz_BK3_5 hz_BK3_6 hz_BK3_7 hz_BK4_0 hz_BK4_1 hz_BK4_2 hz_BK4_3 hz_BK4_4 hz_BK4_5 hz_BK4_6 hz_BK4_7
  clear HB W1 W5 W7 BK3 G1 G5 G7 BK4
  have HB := m_HB
  have W1 := m_W1
  have W5 := m_W5
  have W7 := m_W7
  have BK3 := m_BK3
  have G1 := m_G1
  have G5 := m_G5
  have G7 := m_G7
  have BK4 := m_BK4
  clear m_HB m_W1 m_W5 m_W7 m_BK3 m_G1 m_G5 m_G7 m_BK4
  have Z7 := Aside0.mk (show w6_.heap.size ≤ w7_.heap.size from hb.size)
  clear hb
  have hz_BK3_0 : w7_.cell? ⟨g3_, 0, none⟩ = some (.int .i64 r0) := (blk_cell BK3.out 0).trans rfl
  have hz_BK3_1 : w7_.cell? ⟨g3_, 1, none⟩ = some (.slice A_W1 rb1.length c_W1) := (blk_cell BK3.out 1).trans rfl
  have hz_BK3_2 : w7_.cell? ⟨g3_, 2, none⟩ = some (.int .i64 r3) := (blk_cell BK3.out 2).trans rfl
  have hz_BK3_3 : w7_.cell? ⟨g3_, 3, none⟩ = some (.int .i64 r4) := (blk_cell BK3.out 3).trans rfl
  have hz_BK3_4 : w7_.cell? ⟨g3_, 4, none⟩ = some (.int .i64 r5) := (blk_cell BK3.out 4).trans rfl
  have hz_BK3_5 : w7_.cell? ⟨g3_, 5, none⟩ = some (.slice A_W5 rb5.length c_W5) := (blk_cell BK3.out 5).trans rfl
  have hz_BK3_6 : w7_.cell? ⟨g3_, 6, none⟩ = some (.int .i64 r7) := (blk_cell BK3.out 6).trans rfl
  have hz_BK3_7 : w7_.cell? ⟨g3_, 7, none⟩ = some (.slice A_W7 0 c_W7) := (blk_cell BK3.out 7).trans rfl
  have hz_BK4_0 : w7_.cell? ⟨g4_, 0, none⟩ = some (.int .i64 r0) := (blk_cell BK4.out 0).trans rfl
  have hz_BK4_1 : w7_.cell? ⟨g4_, 1, none⟩ = some (.slice A_G1 rb1.length c_G1) := (blk_cell BK4.out 1).trans rfl
  have hz_BK4_2 : w7_.cell? ⟨g4_, 2, none⟩ = some (.int .i64 r3) := (blk_cell BK4.out 2).trans rfl
  have hz_BK4_3 : w7_.cell? ⟨g4_, 3, none⟩ = some (.int .i64 r4) := (blk_cell BK4.out 3).trans rfl
  have hz_BK4_4 : w7_.cell? ⟨g4_, 4, none⟩ = some (.int .i64 r5) := (blk_cell BK4.out 4).trans rfl
  have hz_BK4_5 : w7_.cell? ⟨g4_, 5, none⟩ = some (.slice A_G5 rb5.length c_G5) := (blk_cell BK4.out 5).trans rfl
  have hz_BK4_6 : w7_.cell? ⟨g4_, 6, none⟩ = some (.int .i64 r7) := (blk_cell BK4.out 6).trans rfl
  have hz_BK4_7 : w7_.cell? ⟨g4_, 7, none⟩ = some (.slice A_G7 0 c_G7) := (blk_cell BK4.out 7).trans rfl
  have G7o := Aside0.mk G7.out.1
  go_wp2_with (first | (go_at_call 25; refine hold_here ?_))
  refine hold_go ?_
  refine (markBlockResult_calls _ r0 r3 r4 r5 r7 A_G1 c_G1 rb1 A_G5 c_G5 rb5 A_G7 c_G7 1 b m1 m5 w _ w3_.heap.size w4_.heap.size H_m.out H_b0.out H_b1.out ?s1 ?s2 ?s3 HN_.out ⟨G7.out.1, .inl rfl⟩ ?s4).mono ?_
  case s1 => exact (by repeat (first | (with_reducible first | exact HB.out | apply below_alloc | apply pw_below_drewN | apply below_drew1) | exact HB.out))
  case s2 => exact (by (with_reducible repeat (first | apply Kd.R_alloc | apply Kd.R_drewN | apply Kd.R_drew)); exact G1.out)
  case s3 => exact (by (with_reducible repeat (first | apply Kd.R_alloc | apply Kd.R_drewN | apply Kd.R_drew)); exact G5.out)
  case s4 => first | exact (by have := Z1.out; have := Z2.out; have := Z3.out; have := Z4.out; have := Z5.out; have := Z6.out; have := Z7.out; have := GE3.out; have := GL3.out; have := GE4.out; have := GL4.out; omega) | (simp only [drewN_heap]; exact (by have := Z1.out; have := Z2.out; have := Z3.out; have := Z4.out; have := Z5.out; have := Z6.out; have := Z7.out; have := GE3.out; have := GL3.out; have := GE4.out; have := GL4.out; omega))
  rintro e w8_ ⟨rfl, q1, q5, hb2, hk⟩
  clear G1
  clear G5
  clear G7
  have m_W1 := Aside0.mk (B_kept (by (with_reducible repeat (first | apply Kd.R_alloc | apply Kd.R_drewN | apply Kd.R_drew)); exact W1.out) hk (by have := Z1.out; have := Z2.out; have := Z3.out; have := Z4.out; have := Z5.out; have := Z6.out; have := Z7.out; have := GE3.out; have := GL3.out; have := GE4.out; have := GL4.out; omega))
  have m_W5 := Aside0.mk (B_kept (by (with_reducible repeat (first | apply Kd.R_alloc | apply Kd.R_drewN | apply Kd.R_drew)); exact W5.out) hk (by have := Z1.out; have := Z2.out; have := Z3.out; have := Z4.out; have := Z5.out; have := Z6.out; have := Z7.out; have := GE3.out; have := GL3.out; have := GE4.out; have := GL4.out; omega))
  have m_W7 := Aside0.mk (AR.kept (by (with_reducible repeat (first | refine AR.alloc ?_ _ | refine AR.drewN ?_ _ | refine AR.drew ?_)); exact W7.out) hk (by have := Z1.out; have := Z2.out; have := Z3.out; have := Z4.out; have := Z5.out; have := Z6.out; have := Z7.out; have := GE3.out; have := GL3.out; have := GE4.out; have := GL4.out; omega))
  have m_BK3 := Aside0.mk (blk_keptIn (by (with_reducible repeat (first | refine blk_drewN ?_ _ | refine blk_drew ?_ | refine blk_alloc ?_ _)); exact BK3.out) hk (by have := Z1.out; have := Z2.out; have := Z3.out; have := Z4.out; have := Z5.out; have := Z6.out; have := Z7.out; have := GE3.out; have := GL3.out; have := GE4.out; have := GL4.out; omega))
  have m_BK4 := Aside0.mk (blk_keptIn (by (with_reducible repeat (first | refine blk_drewN ?_ _ | refine blk_drew ?_ | refine blk_alloc ?_ _)); exact BK4.out) hk (by have := Z1.out; have := Z2.out; have := Z3.out; have := Z4.out; have := Z5.out; have := Z6.out; have := Z7.out; have := GE3.out; have := GL3.out; have := GE4.out; have := GL4.out; omega))
  have m_HB := Aside0.mk hb2
  clear hz_BK3_0 hz_BK3_1 hz_BK3_2 hz_BK3_3 hz_BK3_4 hz_BK3_5 hz_BK3_6 hz_BK3_7 hz_BK4_0 hz_BK4_1 hz_BK4_2 hz_BK4_3 hz_BK4_4 hz_BK4_5 hz_BK4_6 hz_BK4_7
  clear HB W1 W5 W7 BK3 BK4
  have HB := m_HB
  have W1 := m_W1
  have W5 := m_W5
  have W7 := m_W7
  have BK3 := m_BK3
  have BK4 := m_BK4
  clear m_HB m_W1 m_W5 m_W7 m_BK3 m_BK4
  have Z8 := Aside0.mk (show w7_.heap.size ≤ w8_.heap.size from hk.1)
  have G1 := Aside0.mk q1
  have G5 := Aside0.mk q5
  have G7 := Aside0.mk (show AR w.heap.size w8_ w3_.heap.size w4_.heap.size A_G7 ([] : List (List Int)) from ⟨G7o.out, .inl rfl⟩)
  clear q1 q5 G7o HN_
  clear hk hb2
  have hz_BK3_0 : w8_.cell? ⟨g3_, 0, none⟩ = some (.int .i64 r0) := (blk_cell BK3.out 0).trans rfl
  have hz_BK3_1 : w8_.cell? ⟨g3_, 1, none⟩ = some (.slice A_W1 rb1.length c_W1) := (blk_cell BK3.out 1).trans rfl
  have hz_BK3_2 : w8_.cell? ⟨g3_, 2, none⟩ = some (.int .i64 r3) := (blk_cell BK3.out 2).trans rfl
  have hz_BK3_3 : w8_.cell? ⟨g3_, 3, none⟩ = some (.int .i64 r4) := (blk_cell BK3.out 3).trans rfl
  have hz_BK3_4 : w8_.cell? ⟨g3_, 4, none⟩ = some (.int .i64 r5) := (blk_cell BK3.out 4).trans rfl
  have hz_BK3_5 : w8_.cell? ⟨g3_, 5, none⟩ = some (.slice A_W5 rb5.length c_W5) := (blk_cell BK3.out 5).trans rfl
  have hz_BK3_6 : w8_.cell? ⟨g3_, 6, none⟩ = some (.int .i64 r7) := (blk_cell BK3.out 6).trans rfl
  have hz_BK3_7 : w8_.cell? ⟨g3_, 7, none⟩ = some (.slice A_W7 0 c_W7) := (blk_cell BK3.out 7).trans rfl
  have hz_BK4_0 : w8_.cell? ⟨g4_, 0, none⟩ = some (.int .i64 r0) := (blk_cell BK4.out 0).trans rfl
  have hz_BK4_1 : w8_.cell? ⟨g4_, 1, none⟩ = some (.slice A_G1 rb1.length c_G1) := (blk_cell BK4.out 1).trans rfl
  have hz_BK4_2 : w8_.cell? ⟨g4_, 2, none⟩ = some (.int .i64 r3) := (blk_cell BK4.out 2).trans rfl
  have hz_BK4_3 : w8_.cell? ⟨g4_, 3, none⟩ = some (.int .i64 r4) := (blk_cell BK4.out 3).trans rfl
  have hz_BK4_4 : w8_.cell? ⟨g4_, 4, none⟩ = some (.int .i64 r5) := (blk_cell BK4.out 4).trans rfl
  have hz_BK4_5 : w8_.cell? ⟨g4_, 5, none⟩ = some (.slice A_G5 rb5.length c_G5) := (blk_cell BK4.out 5).trans rfl
  have hz_BK4_6 : w8_.cell? ⟨g4_, 6, none⟩ = some (.int .i64 r7) := (blk_cell BK4.out 6).trans rfl
  have hz_BK4_7 : w8_.cell? ⟨g4_, 7, none⟩ = some (.slice A_G7 0 c_G7) := (blk_cell BK4.out 7).trans rfl
  go_wp2_with (first | (go_at_call 26; refine hold_here ?_))
  refine hold_go ?_
  refine (heldBlockResult_len _ r0 r3 r4 r5 r7 A_G1 c_G1 m1 rb1.length H_n1.out A_G5 c_G5 m5 rb5.length H_n5.out A_G7 c_G7 1 b _ ?s1 ?s2 ?s3 ?s4 ?s5 H_hr.out).mono ?_
  case s1 => exact (Kd.R_reads' (by (with_reducible repeat (first | apply Kd.R_alloc | apply Kd.R_drewN | apply Kd.R_drew)); exact G1.out)).2.2
  case s2 => exact (Kd.R_reads' G1.out).2.1
  case s3 => exact (Kd.R_reads' (by (with_reducible repeat (first | apply Kd.R_alloc | apply Kd.R_drewN | apply Kd.R_drew)); exact G5.out)).2.2
  case s4 => exact (Kd.R_reads' G5.out).2.1
  case s5 => exact Kd.F_now (AR.foot (by (with_reducible repeat (first | refine AR.alloc ?_ _ | refine AR.drewN ?_ _ | refine AR.drew ?_)); exact G7.out))
  rintro e w9_ ⟨rfl, hb⟩
  have m_W1 := Aside0.mk (Kd.R_below (by (with_reducible repeat (first | apply Kd.R_alloc | apply Kd.R_drewN | apply Kd.R_drew)); exact W1.out) hb)
  have m_W5 := Aside0.mk (Kd.R_below (by (with_reducible repeat (first | apply Kd.R_alloc | apply Kd.R_drewN | apply Kd.R_drew)); exact W5.out) hb)
  have m_W7 := Aside0.mk (AR.below (by (with_reducible repeat (first | refine AR.alloc ?_ _ | refine AR.drewN ?_ _ | refine AR.drew ?_)); exact W7.out) hb)
  have m_BK3 := Aside0.mk (blk_below (by (with_reducible repeat (first | refine blk_drewN ?_ _ | refine blk_drew ?_ | refine blk_alloc ?_ _)); exact BK3.out) hb)
  have m_BK4 := Aside0.mk (blk_below (by (with_reducible repeat (first | refine blk_drewN ?_ _ | refine blk_drew ?_ | refine blk_alloc ?_ _)); exact BK4.out) hb)
  have m_G1 := Aside0.mk (Kd.R_below (by (with_reducible repeat (first | apply Kd.R_alloc | apply Kd.R_drewN | apply Kd.R_drew)); exact G1.out) hb)
  have m_G5 := Aside0.mk (Kd.R_below (by (with_reducible repeat (first | apply Kd.R_alloc | apply Kd.R_drewN | apply Kd.R_drew)); exact G5.out) hb)
  have m_G7 := Aside0.mk (AR.below (by (with_reducible repeat (first | refine AR.alloc ?_ _ | refine AR.drewN ?_ _ | refine AR.drew ?_)); exact G7.out) hb)
  have m_HB := Aside0.mk (below_step (by repeat (first | (with_reducible first | exact HB.out | apply below_alloc | apply pw_below_drewN | apply below_drew1) | exact HB.out)) hb)
  clear hz_BK3_0 hz_BK3_1 hz_BK3_2 hz_BK3_3 hz_BK3_4 hz_BK3_5 hz_BK3_6 hz_BK3_7 hz_BK4_0 hz_BK4_1 hz_BK4_2 hz_BK4_3 hz_BK4_4 hz_BK4_5 hz_BK4_6 hz_BK4_7
  clear HB W1 W5 W7 BK3 BK4 G1 G5 G7
  have HB := m_HB
  have W1 := m_W1
  have W5 := m_W5
  have W7 := m_W7
  have BK3 := m_BK3
  have BK4 := m_BK4
  have G1 := m_G1
  have G5 := m_G5
  have G7 := m_G7
  clear m_HB m_W1 m_W5 m_W7 m_BK3 m_BK4 m_G1 m_G5 m_G7
  have Z9 := Aside0.mk (show w8_.heap.size ≤ w9_.heap.size from hb.size)
  clear hb
  have hz_BK3_0 : w9_.cell? ⟨g3_, 0, none⟩ = some (.int .i64 r0) := (blk_cell BK3.out 0).trans rfl
  have hz_BK3_1 : w9_.cell? ⟨g3_, 1, none⟩ = some (.slice A_W1 rb1.length c_W1) := (blk_cell BK3.out 1).trans rfl
  have hz_BK3_2 : w9_.cell? ⟨g3_, 2, none⟩ = some (.int .i64 r3) := (blk_cell BK3.out 2).trans rfl
  have hz_BK3_3 : w9_.cell? ⟨g3_, 3, none⟩ = some (.int .i64 r4) := (blk_cell BK3.out 3).trans rfl
  have hz_BK3_4 : w9_.cell? ⟨g3_, 4, none⟩ = some (.int .i64 r5) := (blk_cell BK3.out 4).trans rfl
  have hz_BK3_5 : w9_.cell? ⟨g3_, 5, none⟩ = some (.slice A_W5 rb5.length c_W5) := (blk_cell BK3.out 5).trans rfl
  have hz_BK3_6 : w9_.cell? ⟨g3_, 6, none⟩ = some (.int .i64 r7) := (blk_cell BK3.out 6).trans rfl
  have hz_BK3_7 : w9_.cell? ⟨g3_, 7, none⟩ = some (.slice A_W7 0 c_W7) := (blk_cell BK3.out 7).trans rfl
  have hz_BK4_0 : w9_.cell? ⟨g4_, 0, none⟩ = some (.int .i64 r0) := (blk_cell BK4.out 0).trans rfl
  have hz_BK4_1 : w9_.cell? ⟨g4_, 1, none⟩ = some (.slice A_G1 rb1.length c_G1) := (blk_cell BK4.out 1).trans rfl
  have hz_BK4_2 : w9_.cell? ⟨g4_, 2, none⟩ = some (.int .i64 r3) := (blk_cell BK4.out 2).trans rfl
  have hz_BK4_3 : w9_.cell? ⟨g4_, 3, none⟩ = some (.int .i64 r4) := (blk_cell BK4.out 3).trans rfl
  have hz_BK4_4 : w9_.cell? ⟨g4_, 4, none⟩ = some (.int .i64 r5) := (blk_cell BK4.out 4).trans rfl
  have hz_BK4_5 : w9_.cell? ⟨g4_, 5, none⟩ = some (.slice A_G5 rb5.length c_G5) := (blk_cell BK4.out 5).trans rfl
  have hz_BK4_6 : w9_.cell? ⟨g4_, 6, none⟩ = some (.int .i64 r7) := (blk_cell BK4.out 6).trans rfl
  have hz_BK4_7 : w9_.cell? ⟨g4_, 7, none⟩ = some (.slice A_G7 0 c_G7) := (blk_cell BK4.out 7).trans rfl
  go_wp2_with (first | (go_at_call 23; refine hold_here ?_))
  refine hold_go ?_
  refine (impl_FirstBlock.calls _ a0 r0 rb1 r3 r4 r5 rb5 r7 [] _ H_impl.out).mono ?_
  rintro e w10_ ⟨v1, v5, v7, rfl, ho1, ho5, ho7, hb⟩
  have m_W1 := Aside0.mk (Kd.R_below (by (with_reducible repeat (first | apply Kd.R_alloc | apply Kd.R_drewN | apply Kd.R_drew)); exact W1.out) hb)
  have m_W5 := Aside0.mk (Kd.R_below (by (with_reducible repeat (first | apply Kd.R_alloc | apply Kd.R_drewN | apply Kd.R_drew)); exact W5.out) hb)
  have m_W7 := Aside0.mk (AR.below (by (with_reducible repeat (first | refine AR.alloc ?_ _ | refine AR.drewN ?_ _ | refine AR.drew ?_)); exact W7.out) hb)
  have m_BK3 := Aside0.mk (blk_below (by (with_reducible repeat (first | refine blk_drewN ?_ _ | refine blk_drew ?_ | refine blk_alloc ?_ _)); exact BK3.out) hb)
  have m_BK4 := Aside0.mk (blk_below (by (with_reducible repeat (first | refine blk_drewN ?_ _ | refine blk_drew ?_ | refine blk_alloc ?_ _)); exact BK4.out) hb)
  have m_G1 := Aside0.mk (Kd.R_below (by (with_reducible repeat (first | apply Kd.R_alloc | apply Kd.R_drewN | apply Kd.R_drew)); exact G1.out) hb)
  have m_G5 := Aside0.mk (Kd.R_below (by (with_reducible repeat (first | apply Kd.R_alloc | apply Kd.R_drewN | apply Kd.R_drew)); exact G5.out) hb)
  have m_G7 := Aside0.mk (AR.below (by (with_reducible repeat (first | refine AR.alloc ?_ _ | refine AR.drewN ?_ _ | refine AR.drew ?_)); exact G7.out) hb)
  have m_HB := Aside0.mk (below_step (by repeat (first | (with_reducible first | exact HB.out | apply below_alloc | apply pw_below_drewN | apply below_drew1) | exact HB.out)) hb)
  clear hz_BK3_0 hz_BK3_1 hz_BK3_2 hz_BK3_3 hz_BK3_4 hz_BK3_5 hz_BK3_6 hz_BK3_7 hz_BK4_0 hz_BK4_1 hz_BK4_2 hz_BK4_3 hz_BK4_4 hz_BK4_5 hz_BK4_6 hz_BK4_7
  clear HB W1 W5 W7 BK3 BK4 G1 G5 G7
  have HB := m_HB
  have W1 := m_W1
  have W5 := m_W5
  have W7 := m_W7
  have BK3 := m_BK3
  have BK4 := m_BK4
  have G1 := m_G1
  have G5 := m_G5
  have G7 := m_G7
  clear m_HB m_W1 m_W5 m_W7 m_BK3 m_BK4 m_G1 m_G5 m_G7
  have Z10 := Aside0.mk (show w9_.heap.size ≤ w10_.heap.size from hb.size)
  obtain ⟨A_H1, c_H1, ev_, hA_H1⟩ := B_of_R (base := w.heap.size) ho1 (show w.heap.size ≤ w9_.heap.size from (by have := Z1.out; have := Z2.out; have := Z3.out; have := Z4.out; have := Z5.out; have := Z6.out; have := Z7.out; have := Z8.out; have := Z9.out; have := Z10.out; have := GE3.out; have := GL3.out; have := GE4.out; have := GL4.out; omega))
  subst ev_
  have H1 := Aside0.mk (show Kd.R (Kd.int .u8) 5 w10_ w.heap.size (In w9_.heap.size w10_.heap.size) (.slice A_H1 rb1.length c_H1) rb1 from hA_H1)
  clear hA_H1 ho1
  obtain ⟨A_H5, c_H5, ev_, hA_H5⟩ := B_of_R (base := w.heap.size) ho5 (show w.heap.size ≤ w9_.heap.size from (by have := Z1.out; have := Z2.out; have := Z3.out; have := Z4.out; have := Z5.out; have := Z6.out; have := Z7.out; have := Z8.out; have := Z9.out; have := Z10.out; have := GE3.out; have := GL3.out; have := GE4.out; have := GL4.out; omega))
  subst ev_
  have H5 := Aside0.mk (show Kd.R (Kd.int .u8) 5 w10_ w.heap.size (In w9_.heap.size w10_.heap.size) (.slice A_H5 rb5.length c_H5) rb5 from hA_H5)
  clear hA_H5 ho5
  obtain ⟨A_H7, c_H7, ev_, hc_H7, hA_H7⟩ := AR_of_S (base := w.heap.size) ho7 (show w.heap.size ≤ w9_.heap.size from (by have := Z1.out; have := Z2.out; have := Z3.out; have := Z4.out; have := Z5.out; have := Z6.out; have := Z7.out; have := Z8.out; have := Z9.out; have := Z10.out; have := GE3.out; have := GL3.out; have := GE4.out; have := GL4.out; omega))
  subst ev_
  have HC_H7 := Aside0.mk hc_H7
  have H7 := Aside0.mk (show AR w.heap.size w10_ w9_.heap.size w10_.heap.size A_H7 ([] : List (List Int)) from hA_H7)
  clear hc_H7 hA_H7 ho7
  clear hb
  have hz_BK3_0 : w10_.cell? ⟨g3_, 0, none⟩ = some (.int .i64 r0) := (blk_cell BK3.out 0).trans rfl
  have hz_BK3_1 : w10_.cell? ⟨g3_, 1, none⟩ = some (.slice A_W1 rb1.length c_W1) := (blk_cell BK3.out 1).trans rfl
  have hz_BK3_2 : w10_.cell? ⟨g3_, 2, none⟩ = some (.int .i64 r3) := (blk_cell BK3.out 2).trans rfl
  have hz_BK3_3 : w10_.cell? ⟨g3_, 3, none⟩ = some (.int .i64 r4) := (blk_cell BK3.out 3).trans rfl
  have hz_BK3_4 : w10_.cell? ⟨g3_, 4, none⟩ = some (.int .i64 r5) := (blk_cell BK3.out 4).trans rfl
  have hz_BK3_5 : w10_.cell? ⟨g3_, 5, none⟩ = some (.slice A_W5 rb5.length c_W5) := (blk_cell BK3.out 5).trans rfl
  have hz_BK3_6 : w10_.cell? ⟨g3_, 6, none⟩ = some (.int .i64 r7) := (blk_cell BK3.out 6).trans rfl
  have hz_BK3_7 : w10_.cell? ⟨g3_, 7, none⟩ = some (.slice A_W7 0 c_W7) := (blk_cell BK3.out 7).trans rfl
  have hz_BK4_0 : w10_.cell? ⟨g4_, 0, none⟩ = some (.int .i64 r0) := (blk_cell BK4.out 0).trans rfl
  have hz_BK4_1 : w10_.cell? ⟨g4_, 1, none⟩ = some (.slice A_G1 rb1.length c_G1) := (blk_cell BK4.out 1).trans rfl
  have hz_BK4_2 : w10_.cell? ⟨g4_, 2, none⟩ = some (.int .i64 r3) := (blk_cell BK4.out 2).trans rfl
  have hz_BK4_3 : w10_.cell? ⟨g4_, 3, none⟩ = some (.int .i64 r4) := (blk_cell BK4.out 3).trans rfl
  have hz_BK4_4 : w10_.cell? ⟨g4_, 4, none⟩ = some (.int .i64 r5) := (blk_cell BK4.out 4).trans rfl
  have hz_BK4_5 : w10_.cell? ⟨g4_, 5, none⟩ = some (.slice A_G5 rb5.length c_G5) := (blk_cell BK4.out 5).trans rfl
  have hz_BK4_6 : w10_.cell? ⟨g4_, 6, none⟩ = some (.int .i64 r7) := (blk_cell BK4.out 6).trans rfl
  have hz_BK4_7 : w10_.cell? ⟨g4_, 7, none⟩ = some (.slice A_G7 0 c_G7) := (blk_cell BK4.out 7).trans rfl
  go_wp2_with (first | ((with_reducible refine gate_dst (N := 7) rfl ?_); refine hold_here ?_))
  refine hold_go ?_
  refine box_event (N := 7) (cs := #[.int .i64 0, .slice none 0 0, .int .i64 0, .int .i64 0, .int .i64 0, .slice none 0 0, .int .i64 0, .slice none 0 0]) (t := 47) ?hgb rfl ?hrb ?_
  case hgb => rfl
  case hrb => first | (go_simp; done) | (go_simp; rfl)
  intro g7_ hg w11_ hbox hb
  have m_W1 := Aside0.mk (Kd.R_below (by (with_reducible repeat (first | apply Kd.R_alloc | apply Kd.R_drewN | apply Kd.R_drew)); exact W1.out) hb)
  have m_W5 := Aside0.mk (Kd.R_below (by (with_reducible repeat (first | apply Kd.R_alloc | apply Kd.R_drewN | apply Kd.R_drew)); exact W5.out) hb)
  have m_W7 := Aside0.mk (AR.below (by (with_reducible repeat (first | refine AR.alloc ?_ _ | refine AR.drewN ?_ _ | refine AR.drew ?_)); exact W7.out) hb)
  have m_BK3 := Aside0.mk (blk_below (by (with_reducible repeat (first | refine blk_drewN ?_ _ | refine blk_drew ?_ | refine blk_alloc ?_ _)); exact BK3.out) hb)
  have m_BK4 := Aside0.mk (blk_below (by (with_reducible repeat (first | refine blk_drewN ?_ _ | refine blk_drew ?_ | refine blk_alloc ?_ _)); exact BK4.out) hb)
  have m_G1 := Aside0.mk (Kd.R_below (by (with_reducible repeat (first | apply Kd.R_alloc | apply Kd.R_drewN | apply Kd.R_drew)); exact G1.out) hb)
  have m_G5 := Aside0.mk (Kd.R_below (by (with_reducible repeat (first | apply Kd.R_alloc | apply Kd.R_drewN | apply Kd.R_drew)); exact G5.out) hb)
  have m_G7 := Aside0.mk (AR.below (by (with_reducible repeat (first | refine AR.alloc ?_ _ | refine AR.drewN ?_ _ | refine AR.drew ?_)); exact G7.out) hb)
  have m_H1 := Aside0.mk (Kd.R_below (by (with_reducible repeat (first | apply Kd.R_alloc | apply Kd.R_drewN | apply Kd.R_drew)); exact H1.out) hb)
  have m_H5 := Aside0.mk (Kd.R_below (by (with_reducible repeat (first | apply Kd.R_alloc | apply Kd.R_drewN | apply Kd.R_drew)); exact H5.out) hb)
  have m_H7 := Aside0.mk (AR.below (by (with_reducible repeat (first | refine AR.alloc ?_ _ | refine AR.drewN ?_ _ | refine AR.drew ?_)); exact H7.out) hb)
  have m_HB := Aside0.mk (below_step (by repeat (first | (with_reducible first | exact HB.out | apply below_alloc | apply pw_below_drewN | apply below_drew1) | exact HB.out)) hb)
  clear hz_BK3_0 hz_BK3_1 hz_BK3_2 hz_BK3_3 hz_BK3_4 hz_BK3_5 hz_BK3_6 hz_BK3_7 hz_BK4_0 hz_BK4_1 hz_BK4_2 hz_BK4_3 hz_BK4_4 hz_BK4_5 hz_BK4_6 hz_BK4_7
  clear HB W1 W5 W7 BK3 BK4 G1 G5 G7 H1 H5 H7
  have HB := m_HB
  have W1 := m_W1
  have W5 := m_W5
  have W7 := m_W7
  have BK3 := m_BK3
  have BK4 := m_BK4
  have G1 := m_G1
  have G5 := m_G5
  have G7 := m_G7
  have H1 := m_H1
  have H5 := m_H5
  have H7 := m_H7
  clear m_HB m_W1 m_W5 m_W7 m_BK3 m_BK4 m_G1 m_G5 m_G7 m_H1 m_H5 m_H7
  have Z11 := Aside0.mk (show w10_.heap.size ≤ w11_.heap.size from hb.size)
  have BK7 := Aside0.mk hbox
  have GE7 := Aside0.mk (show g7_ = w10_.heap.size from hg)
  have GL7 := Aside0.mk (show g7_ < w11_.heap.size from blk_lt hbox)
  clear hb hbox hg
  go_wp2_with (first | ((with_reducible refine gate_store (t := 47) (p := 7) (v := .tmp 28) rfl ?_); refine hold_here ?_))
  refine hold_go ?_
  refine row_store rfl 47 (.tmp 7) (.tmp 28) rfl g7_ #[.int .i64 r0, .slice A_H1 rb1.length c_H1, .int .i64 r3, .int .i64 r4, .int .i64 r5, .slice A_H5 rb5.length c_H5, .int .i64 r7, .slice A_H7 0 c_H7] rfl rfl 47 _ (by (with_reducible repeat (first | refine blk_drewN ?_ _ | refine blk_drew ?_ | refine blk_alloc ?_ _)); exact BK7.out) ?hi ?ho ?h1 rfl (by repeat (first | (with_reducible first | exact HB.out | apply below_alloc | apply pw_below_drewN | apply below_drew1) | exact HB.out)) (show w.heap.size ≤ g7_ from (by have := Z1.out; have := Z2.out; have := Z3.out; have := Z4.out; have := Z5.out; have := Z6.out; have := Z7.out; have := Z8.out; have := Z9.out; have := Z10.out; have := Z11.out; have := GE3.out; have := GL3.out; have := GE4.out; have := GL4.out; have := GE7.out; have := GL7.out; omega)) ?_
  case hi => kernel_rfl
  case ho => rfl
  case h1 => first | rfl | (simp [Value.oneCell']; done) | (go_simp; done)
  intro w12_ bo hk hb2
  clear BK7
  have m_W1 := Aside0.mk (B_kept (by (with_reducible repeat (first | apply Kd.R_alloc | apply Kd.R_drewN | apply Kd.R_drew)); exact W1.out) hk (by have := Z1.out; have := Z2.out; have := Z3.out; have := Z4.out; have := Z5.out; have := Z6.out; have := Z7.out; have := Z8.out; have := Z9.out; have := Z10.out; have := Z11.out; have := GE3.out; have := GL3.out; have := GE4.out; have := GL4.out; have := GE7.out; have := GL7.out; omega))
  have m_W5 := Aside0.mk (B_kept (by (with_reducible repeat (first | apply Kd.R_alloc | apply Kd.R_drewN | apply Kd.R_drew)); exact W5.out) hk (by have := Z1.out; have := Z2.out; have := Z3.out; have := Z4.out; have := Z5.out; have := Z6.out; have := Z7.out; have := Z8.out; have := Z9.out; have := Z10.out; have := Z11.out; have := GE3.out; have := GL3.out; have := GE4.out; have := GL4.out; have := GE7.out; have := GL7.out; omega))
  have m_W7 := Aside0.mk (AR.kept (by (with_reducible repeat (first | refine AR.alloc ?_ _ | refine AR.drewN ?_ _ | refine AR.drew ?_)); exact W7.out) hk (by have := Z1.out; have := Z2.out; have := Z3.out; have := Z4.out; have := Z5.out; have := Z6.out; have := Z7.out; have := Z8.out; have := Z9.out; have := Z10.out; have := Z11.out; have := GE3.out; have := GL3.out; have := GE4.out; have := GL4.out; have := GE7.out; have := GL7.out; omega))
  have m_BK3 := Aside0.mk (blk_keptIn (by (with_reducible repeat (first | refine blk_drewN ?_ _ | refine blk_drew ?_ | refine blk_alloc ?_ _)); exact BK3.out) hk (by have := Z1.out; have := Z2.out; have := Z3.out; have := Z4.out; have := Z5.out; have := Z6.out; have := Z7.out; have := Z8.out; have := Z9.out; have := Z10.out; have := Z11.out; have := GE3.out; have := GL3.out; have := GE4.out; have := GL4.out; have := GE7.out; have := GL7.out; omega))
  have m_BK4 := Aside0.mk (blk_keptIn (by (with_reducible repeat (first | refine blk_drewN ?_ _ | refine blk_drew ?_ | refine blk_alloc ?_ _)); exact BK4.out) hk (by have := Z1.out; have := Z2.out; have := Z3.out; have := Z4.out; have := Z5.out; have := Z6.out; have := Z7.out; have := Z8.out; have := Z9.out; have := Z10.out; have := Z11.out; have := GE3.out; have := GL3.out; have := GE4.out; have := GL4.out; have := GE7.out; have := GL7.out; omega))
  have m_G1 := Aside0.mk (B_kept (by (with_reducible repeat (first | apply Kd.R_alloc | apply Kd.R_drewN | apply Kd.R_drew)); exact G1.out) hk (by have := Z1.out; have := Z2.out; have := Z3.out; have := Z4.out; have := Z5.out; have := Z6.out; have := Z7.out; have := Z8.out; have := Z9.out; have := Z10.out; have := Z11.out; have := GE3.out; have := GL3.out; have := GE4.out; have := GL4.out; have := GE7.out; have := GL7.out; omega))
  have m_G5 := Aside0.mk (B_kept (by (with_reducible repeat (first | apply Kd.R_alloc | apply Kd.R_drewN | apply Kd.R_drew)); exact G5.out) hk (by have := Z1.out; have := Z2.out; have := Z3.out; have := Z4.out; have := Z5.out; have := Z6.out; have := Z7.out; have := Z8.out; have := Z9.out; have := Z10.out; have := Z11.out; have := GE3.out; have := GL3.out; have := GE4.out; have := GL4.out; have := GE7.out; have := GL7.out; omega))
  have m_G7 := Aside0.mk (AR.kept (by (with_reducible repeat (first | refine AR.alloc ?_ _ | refine AR.drewN ?_ _ | refine AR.drew ?_)); exact G7.out) hk (by have := Z1.out; have := Z2.out; have := Z3.out; have := Z4.out; have := Z5.out; have := Z6.out; have := Z7.out; have := Z8.out; have := Z9.out; have := Z10.out; have := Z11.out; have := GE3.out; have := GL3.out; have := GE4.out; have := GL4.out; have := GE7.out; have := GL7.out; omega))
  have m_H1 := Aside0.mk (B_kept (by (with_reducible repeat (first | apply Kd.R_alloc | apply Kd.R_drewN | apply Kd.R_drew)); exact H1.out) hk (by have := Z1.out; have := Z2.out; have := Z3.out; have := Z4.out; have := Z5.out; have := Z6.out; have := Z7.out; have := Z8.out; have := Z9.out; have := Z10.out; have := Z11.out; have := GE3.out; have := GL3.out; have := GE4.out; have := GL4.out; have := GE7.out; have := GL7.out; omega))
  have m_H5 := Aside0.mk (B_kept (by (with_reducible repeat (first | apply Kd.R_alloc | apply Kd.R_drewN | apply Kd.R_drew)); exact H5.out) hk (by have := Z1.out; have := Z2.out; have := Z3.out; have := Z4.out; have := Z5.out; have := Z6.out; have := Z7.out; have := Z8.out; have := Z9.out; have := Z10.out; have := Z11.out; have := GE3.out; have := GL3.out; have := GE4.out; have := GL4.out; have := GE7.out; have := GL7.out; omega))
  have m_H7 := Aside0.mk (AR.kept (by (with_reducible repeat (first | refine AR.alloc ?_ _ | refine AR.drewN ?_ _ | refine AR.drew ?_)); exact H7.out) hk (by have := Z1.out; have := Z2.out; have := Z3.out; have := Z4.out; have := Z5.out; have := Z6.out; have := Z7.out; have := Z8.out; have := Z9.out; have := Z10.out; have := Z11.out; have := GE3.out; have := GL3.out; have := GE4.out; have := GL4.out; have := GE7.out; have := GL7.out; omega))
  have m_HB := Aside0.mk hb2
  clear HB W1 W5 W7 BK3 BK4 G1 G5 G7 H1 H5 H7
  have HB := m_HB
  have W1 := m_W1
  have W5 := m_W5
  have W7 := m_W7
  have BK3 := m_BK3
  have BK4 := m_BK4
  have G1 := m_G1
  have G5 := m_G5
  have G7 := m_G7
  have H1 := m_H1
  have H5 := m_H5
  have H7 := m_H7
  clear m_HB m_W1 m_W5 m_W7 m_BK3 m_BK4 m_G1 m_G5 m_G7 m_H1 m_H5 m_H7
  have Z12 := Aside0.mk (show w11_.heap.size ≤ w12_.heap.size from hk.1)
  have BK7 := Aside0.mk bo
  clear bo hk hb2
  have hz_BK3_0 : w12_.cell? ⟨g3_, 0, none⟩ = some (.int .i64 r0) := (blk_cell BK3.out 0).trans rfl
  have hz_BK3_1 : w12_.cell? ⟨g3_, 1, none⟩ = some (.slice A_W1 rb1.length c_W1) := (blk_cell BK3.out 1).trans rfl
  have hz_BK3_2 : w12_.cell? ⟨g3_, 2, none⟩ = some (.int .i64 r3) := (blk_cell BK3.out 2).trans rfl
  have hz_BK3_3 : w12_.cell? ⟨g3_, 3, none⟩ = some (.int .i64 r4) := (blk_cell BK3.out 3).trans rfl
  have hz_BK3_4 : w12_.cell? ⟨g3_, 4, none⟩ = some (.int .i64 r5) := (blk_cell BK3.out 4).trans rfl
  have hz_BK3_5 : w12_.cell? ⟨g3_, 5, none⟩ = some (.slice A_W5 rb5.length c_W5) := (blk_cell BK3.out 5).trans rfl
  have hz_BK3_6 : w12_.cell? ⟨g3_, 6, none⟩ = some (.int .i64 r7) := (blk_cell BK3.out 6).trans rfl
  have hz_BK3_7 : w12_.cell? ⟨g3_, 7, none⟩ = some (.slice A_W7 0 c_W7) := (blk_cell BK3.out 7).trans rfl
  have hz_BK4_0 : w12_.cell? ⟨g4_, 0, none⟩ = some (.int .i64 r0) := (blk_cell BK4.out 0).trans rfl
  have hz_BK4_1 : w12_.cell? ⟨g4_, 1, none⟩ = some (.slice A_G1 rb1.length c_G1) := (blk_cell BK4.out 1).trans rfl
  have hz_BK4_2 : w12_.cell? ⟨g4_, 2, none⟩ = some (.int .i64 r3) := (blk_cell BK4.out 2).trans rfl
  have hz_BK4_3 : w12_.cell? ⟨g4_, 3, none⟩ = some (.int .i64 r4) := (blk_cell BK4.out 3).trans rfl
  have hz_BK4_4 : w12_.cell? ⟨g4_, 4, none⟩ = some (.int .i64 r5) := (blk_cell BK4.out 4).trans rfl
  have hz_BK4_5 : w12_.cell? ⟨g4_, 5, none⟩ = some (.slice A_G5 rb5.length c_G5) := (blk_cell BK4.out 5).trans rfl
  have hz_BK4_6 : w12_.cell? ⟨g4_, 6, none⟩ = some (.int .i64 r7) := (blk_cell BK4.out 6).trans rfl
  have hz_BK4_7 : w12_.cell? ⟨g4_, 7, none⟩ = some (.slice A_G7 0 c_G7) := (blk_cell BK4.out 7).trans rfl
  have hz_BK7_0 : w12_.cell? ⟨g7_, 0, none⟩ = some (.int .i64 r0) := (blk_cell BK7.out 0).trans rfl
  have hz_BK7_1 : w12_.cell? ⟨g7_, 1, none⟩ = some (.slice A_H1 rb1.length c_H1) := (blk_cell BK7.out 1).trans rfl
  have hz_BK7_2 : w12_.cell? ⟨g7_, 2, none⟩ = some (.int .i64 r3) := (blk_cell BK7.out 2).trans rfl
  have hz_BK7_3 : w12_.cell? ⟨g7_, 3, none⟩ = some (.int .i64 r4) := (blk_cell BK7.out 3).trans rfl
  have hz_BK7_4 : w12_.cell? ⟨g7_, 4, none⟩ = some (.int .i64 r5) := (blk_cell BK7.out 4).trans rfl
  have hz_BK7_5 : w12_.cell? ⟨g7_, 5, none⟩ = some (.slice A_H5 rb5.length c_H5) := (blk_cell BK7.out 5).trans rfl
  have hz_BK7_6 : w12_.cell? ⟨g7_, 6, none⟩ = some (.int .i64 r7) := (blk_cell BK7.out 6).trans rfl
  have hz_BK7_7 : w12_.cell? ⟨g7_, 7, none⟩ = some (.slice A_H7 0 c_H7) := (blk_cell BK7.out 7).trans rfl
  go_wp2_with (first | (go_at_call 24; refine hold_here ?_))
  refine hold_go ?_
  refine (laws_eqBlockResult.calls _ r0 A_H1 c_H1 rb1 r3 r4 r5 A_H5 c_H5 rb5 r7 A_H7 c_H7 [] r0 A_W1 c_W1 rb1 r3 r4 r5 A_W5 c_W5 rb5 r7 A_W7 c_W7 [] true _ ?s1 ?s2 ?s3 ?s4 ?s5 ?s6 ?s7 ?s8 ?s9 ?s10 ?s11 ?s12 H_eqr.out).mono ?_
  case s1 => exact (Kd.R_reads' (by (with_reducible repeat (first | apply Kd.R_alloc | apply Kd.R_drewN | apply Kd.R_drew)); exact H1.out)).2.2
  case s2 => exact (Kd.R_reads' H1.out).2.1
  case s3 => exact (Kd.R_reads' (by (with_reducible repeat (first | apply Kd.R_alloc | apply Kd.R_drewN | apply Kd.R_drew)); exact H5.out)).2.2
  case s4 => exact (Kd.R_reads' H5.out).2.1
  case s5 => exact Kd.F_now (AR.foot (by (with_reducible repeat (first | refine AR.alloc ?_ _ | refine AR.drewN ?_ _ | refine AR.drew ?_)); exact H7.out))
  case s6 => exact HC_H7.out
  case s7 => exact (Kd.R_reads' (by (with_reducible repeat (first | apply Kd.R_alloc | apply Kd.R_drewN | apply Kd.R_drew)); exact W1.out)).2.2
  case s8 => exact (Kd.R_reads' W1.out).2.1
  case s9 => exact (Kd.R_reads' (by (with_reducible repeat (first | apply Kd.R_alloc | apply Kd.R_drewN | apply Kd.R_drew)); exact W5.out)).2.2
  case s10 => exact (Kd.R_reads' W5.out).2.1
  case s11 => exact Kd.F_now (AR.foot (by (with_reducible repeat (first | refine AR.alloc ?_ _ | refine AR.drewN ?_ _ | refine AR.drew ?_)); exact W7.out))
  case s12 => exact HC_W7.out
  rintro e w13_ ⟨rfl, hb⟩
  have m_W1 := Aside0.mk (Kd.R_below (by (with_reducible repeat (first | apply Kd.R_alloc | apply Kd.R_drewN | apply Kd.R_drew)); exact W1.out) hb)
  have m_W5 := Aside0.mk (Kd.R_below (by (with_reducible repeat (first | apply Kd.R_alloc | apply Kd.R_drewN | apply Kd.R_drew)); exact W5.out) hb)
  have m_W7 := Aside0.mk (AR.below (by (with_reducible repeat (first | refine AR.alloc ?_ _ | refine AR.drewN ?_ _ | refine AR.drew ?_)); exact W7.out) hb)
  have m_BK3 := Aside0.mk (blk_below (by (with_reducible repeat (first | refine blk_drewN ?_ _ | refine blk_drew ?_ | refine blk_alloc ?_ _)); exact BK3.out) hb)
  have m_BK4 := Aside0.mk (blk_below (by (with_reducible repeat (first | refine blk_drewN ?_ _ | refine blk_drew ?_ | refine blk_alloc ?_ _)); exact BK4.out) hb)
  have m_G1 := Aside0.mk (Kd.R_below (by (with_reducible repeat (first | apply Kd.R_alloc | apply Kd.R_drewN | apply Kd.R_drew)); exact G1.out) hb)
  have m_G5 := Aside0.mk (Kd.R_below (by (with_reducible repeat (first | apply Kd.R_alloc | apply Kd.R_drewN | apply Kd.R_drew)); exact G5.out) hb)
  have m_G7 := Aside0.mk (AR.below (by (with_reducible repeat (first | refine AR.alloc ?_ _ | refine AR.drewN ?_ _ | refine AR.drew ?_)); exact G7.out) hb)
  have m_H1 := Aside0.mk (Kd.R_below (by (with_reducible repeat (first | apply Kd.R_alloc | apply Kd.R_drewN | apply Kd.R_drew)); exact H1.out) hb)
  have m_H5 := Aside0.mk (Kd.R_below (by (with_reducible repeat (first | apply Kd.R_alloc | apply Kd.R_drewN | apply Kd.R_drew)); exact H5.out) hb)
  have m_H7 := Aside0.mk (AR.below (by (with_reducible repeat (first | refine AR.alloc ?_ _ | refine AR.drewN ?_ _ | refine AR.drew ?_)); exact H7.out) hb)
  have m_BK7 := Aside0.mk (blk_below (by (with_reducible repeat (first | refine blk_drewN ?_ _ | refine blk_drew ?_ | refine blk_alloc ?_ _)); exact BK7.out) hb)
  have m_HB := Aside0.mk (below_step (by repeat (first | (with_reducible first | exact HB.out | apply below_alloc | apply pw_below_drewN | apply below_drew1) | exact HB.out)) hb)
  clear hz_BK3_0 hz_BK3_1 hz_BK3_2 hz_BK3_3 hz_BK3_4 hz_BK3_5 hz_BK3_6 hz_BK3_7 hz_BK4_0 hz_BK4_1 hz_BK4_2 hz_BK4_3 hz_BK4_4 hz_BK4_5 hz_BK4_6 hz_BK4_7 hz_BK7_0 hz_BK7_1 hz_BK7_2 hz_BK7_3 hz_BK7_4 hz_BK7_5 hz_BK7_6 hz_BK7_7
  clear HB W1 W5 W7 BK3 BK4 G1 G5 G7 H1 H5 H7 BK7
  have HB := m_HB
  have W1 := m_W1
  have W5 := m_W5
  have W7 := m_W7
  have BK3 := m_BK3
  have BK4 := m_BK4
  have G1 := m_G1
  have G5 := m_G5
  have G7 := m_G7
  have H1 := m_H1
  have H5 := m_H5
  have H7 := m_H7
  have BK7 := m_BK7
  clear m_HB m_W1 m_W5 m_W7 m_BK3 m_BK4 m_G1 m_G5 m_G7 m_H1 m_H5 m_H7 m_BK7
  have Z13 := Aside0.mk (show w12_.heap.size ≤ w13_.heap.size from hb.size)
  clear hb
  have hz_BK3_0 : w13_.cell? ⟨g3_, 0, none⟩ = some (.int .i64 r0) := (blk_cell BK3.out 0).trans rfl
  have hz_BK3_1 : w13_.cell? ⟨g3_, 1, none⟩ = some (.slice A_W1 rb1.length c_W1) := (blk_cell BK3.out 1).trans rfl
  have hz_BK3_2 : w13_.cell? ⟨g3_, 2, none⟩ = some (.int .i64 r3) := (blk_cell BK3.out 2).trans rfl
  have hz_BK3_3 : w13_.cell? ⟨g3_, 3, none⟩ = some (.int .i64 r4) := (blk_cell BK3.out 3).trans rfl
  have hz_BK3_4 : w13_.cell? ⟨g3_, 4, none⟩ = some (.int .i64 r5) := (blk_cell BK3.out 4).trans rfl
  have hz_BK3_5 : w13_.cell? ⟨g3_, 5, none⟩ = some (.slice A_W5 rb5.length c_W5) := (blk_cell BK3.out 5).trans rfl
  have hz_BK3_6 : w13_.cell? ⟨g3_, 6, none⟩ = some (.int .i64 r7) := (blk_cell BK3.out 6).trans rfl
  have hz_BK3_7 : w13_.cell? ⟨g3_, 7, none⟩ = some (.slice A_W7 0 c_W7) := (blk_cell BK3.out 7).trans rfl
  have hz_BK4_0 : w13_.cell? ⟨g4_, 0, none⟩ = some (.int .i64 r0) := (blk_cell BK4.out 0).trans rfl
  have hz_BK4_1 : w13_.cell? ⟨g4_, 1, none⟩ = some (.slice A_G1 rb1.length c_G1) := (blk_cell BK4.out 1).trans rfl
  have hz_BK4_2 : w13_.cell? ⟨g4_, 2, none⟩ = some (.int .i64 r3) := (blk_cell BK4.out 2).trans rfl
  have hz_BK4_3 : w13_.cell? ⟨g4_, 3, none⟩ = some (.int .i64 r4) := (blk_cell BK4.out 3).trans rfl
  have hz_BK4_4 : w13_.cell? ⟨g4_, 4, none⟩ = some (.int .i64 r5) := (blk_cell BK4.out 4).trans rfl
  have hz_BK4_5 : w13_.cell? ⟨g4_, 5, none⟩ = some (.slice A_G5 rb5.length c_G5) := (blk_cell BK4.out 5).trans rfl
  have hz_BK4_6 : w13_.cell? ⟨g4_, 6, none⟩ = some (.int .i64 r7) := (blk_cell BK4.out 6).trans rfl
  have hz_BK4_7 : w13_.cell? ⟨g4_, 7, none⟩ = some (.slice A_G7 0 c_G7) := (blk_cell BK4.out 7).trans rfl
  have hz_BK7_0 : w13_.cell? ⟨g7_, 0, none⟩ = some (.int .i64 r0) := (blk_cell BK7.out 0).trans rfl
  have hz_BK7_1 : w13_.cell? ⟨g7_, 1, none⟩ = some (.slice A_H1 rb1.length c_H1) := (blk_cell BK7.out 1).trans rfl
  have hz_BK7_2 : w13_.cell? ⟨g7_, 2, none⟩ = some (.int .i64 r3) := (blk_cell BK7.out 2).trans rfl
  have hz_BK7_3 : w13_.cell? ⟨g7_, 3, none⟩ = some (.int .i64 r4) := (blk_cell BK7.out 3).trans rfl
  have hz_BK7_4 : w13_.cell? ⟨g7_, 4, none⟩ = some (.int .i64 r5) := (blk_cell BK7.out 4).trans rfl
  have hz_BK7_5 : w13_.cell? ⟨g7_, 5, none⟩ = some (.slice A_H5 rb5.length c_H5) := (blk_cell BK7.out 5).trans rfl
  have hz_BK7_6 : w13_.cell? ⟨g7_, 6, none⟩ = some (.int .i64 r7) := (blk_cell BK7.out 6).trans rfl
  have hz_BK7_7 : w13_.cell? ⟨g7_, 7, none⟩ = some (.slice A_H7 0 c_H7) := (blk_cell BK7.out 7).trans rfl
  go_wp2_with (first | (go_at_call 26; refine hold_here ?_))
  refine hold_go ?_
  refine (heldBlockResult_len _ r0 r3 r4 r5 r7 A_G1 c_G1 m1 rb1.length H_n1.out A_G5 c_G5 m5 rb5.length H_n5.out A_G7 c_G7 1 b _ ?s1 ?s2 ?s3 ?s4 ?s5 H_hr.out).mono ?_
  case s1 => exact (Kd.R_reads' (by (with_reducible repeat (first | apply Kd.R_alloc | apply Kd.R_drewN | apply Kd.R_drew)); exact G1.out)).2.2
  case s2 => exact (Kd.R_reads' G1.out).2.1
  case s3 => exact (Kd.R_reads' (by (with_reducible repeat (first | apply Kd.R_alloc | apply Kd.R_drewN | apply Kd.R_drew)); exact G5.out)).2.2
  case s4 => exact (Kd.R_reads' G5.out).2.1
  case s5 => exact Kd.F_now (AR.foot (by (with_reducible repeat (first | refine AR.alloc ?_ _ | refine AR.drewN ?_ _ | refine AR.drew ?_)); exact G7.out))
  rintro e w14_ ⟨rfl, hb⟩
  have m_W1 := Aside0.mk (Kd.R_below (by (with_reducible repeat (first | apply Kd.R_alloc | apply Kd.R_drewN | apply Kd.R_drew)); exact W1.out) hb)
  have m_W5 := Aside0.mk (Kd.R_below (by (with_reducible repeat (first | apply Kd.R_alloc | apply Kd.R_drewN | apply Kd.R_drew)); exact W5.out) hb)
  have m_W7 := Aside0.mk (AR.below (by (with_reducible repeat (first | refine AR.alloc ?_ _ | refine AR.drewN ?_ _ | refine AR.drew ?_)); exact W7.out) hb)
  have m_BK3 := Aside0.mk (blk_below (by (with_reducible repeat (first | refine blk_drewN ?_ _ | refine blk_drew ?_ | refine blk_alloc ?_ _)); exact BK3.out) hb)
  have m_BK4 := Aside0.mk (blk_below (by (with_reducible repeat (first | refine blk_drewN ?_ _ | refine blk_drew ?_ | refine blk_alloc ?_ _)); exact BK4.out) hb)
  have m_G1 := Aside0.mk (Kd.R_below (by (with_reducible repeat (first | apply Kd.R_alloc | apply Kd.R_drewN | apply Kd.R_drew)); exact G1.out) hb)
  have m_G5 := Aside0.mk (Kd.R_below (by (with_reducible repeat (first | apply Kd.R_alloc | apply Kd.R_drewN | apply Kd.R_drew)); exact G5.out) hb)
  have m_G7 := Aside0.mk (AR.below (by (with_reducible repeat (first | refine AR.alloc ?_ _ | refine AR.drewN ?_ _ | refine AR.drew ?_)); exact G7.out) hb)
  have m_H1 := Aside0.mk (Kd.R_below (by (with_reducible repeat (first | apply Kd.R_alloc | apply Kd.R_drewN | apply Kd.R_drew)); exact H1.out) hb)
  have m_H5 := Aside0.mk (Kd.R_below (by (with_reducible repeat (first | apply Kd.R_alloc | apply Kd.R_drewN | apply Kd.R_drew)); exact H5.out) hb)
  have m_H7 := Aside0.mk (AR.below (by (with_reducible repeat (first | refine AR.alloc ?_ _ | refine AR.drewN ?_ _ | refine AR.drew ?_)); exact H7.out) hb)
  have m_BK7 := Aside0.mk (blk_below (by (with_reducible repeat (first | refine blk_drewN ?_ _ | refine blk_drew ?_ | refine blk_alloc ?_ _)); exact BK7.out) hb)
  have m_HB := Aside0.mk (below_step (by repeat (first | (with_reducible first | exact HB.out | apply below_alloc | apply pw_below_drewN | apply below_drew1) | exact HB.out)) hb)
  clear hz_BK3_0 hz_BK3_1 hz_BK3_2 hz_BK3_3 hz_BK3_4 hz_BK3_5 hz_BK3_6 hz_BK3_7 hz_BK4_0 hz_BK4_1 hz_BK4_2 hz_BK4_3 hz_BK4_4 hz_BK4_5 hz_BK4_6 hz_BK4_7 hz_BK7_0 hz_BK7_1 hz_BK7_2 hz_BK7_3 hz_BK7_4 hz_BK7_5 hz_BK7_6 hz_BK7_7
  clear HB W1 W5 W7 BK3 BK4 G1 G5 G7 H1 H5 H7 BK7
  have HB := m_HB
  have W1 := m_W1
  have W5 := m_W5
  have W7 := m_W7
  have BK3 := m_BK3
  have BK4 := m_BK4
  have G1 := m_G1
  have G5 := m_G5
  have G7 := m_G7
  have H1 := m_H1
  have H5 := m_H5
  have H7 := m_H7
  have BK7 := m_BK7
  clear m_HB m_W1 m_W5 m_W7 m_BK3 m_BK4 m_G1 m_G5 m_G7 m_H1 m_H5 m_H7 m_BK7
  have Z14 := Aside0.mk (show w13_.heap.size ≤ w14_.heap.size from hb.size)
  clear hb
  have hz_BK3_0 : w14_.cell? ⟨g3_, 0, none⟩ = some (.int .i64 r0) := (blk_cell BK3.out 0).trans rfl
  have hz_BK3_1 : w14_.cell? ⟨g3_, 1, none⟩ = some (.slice A_W1 rb1.length c_W1) := (blk_cell BK3.out 1).trans rfl
  have hz_BK3_2 : w14_.cell? ⟨g3_, 2, none⟩ = some (.int .i64 r3) := (blk_cell BK3.out 2).trans rfl
  have hz_BK3_3 : w14_.cell? ⟨g3_, 3, none⟩ = some (.int .i64 r4) := (blk_cell BK3.out 3).trans rfl
  have hz_BK3_4 : w14_.cell? ⟨g3_, 4, none⟩ = some (.int .i64 r5) := (blk_cell BK3.out 4).trans rfl
  have hz_BK3_5 : w14_.cell? ⟨g3_, 5, none⟩ = some (.slice A_W5 rb5.length c_W5) := (blk_cell BK3.out 5).trans rfl
  have hz_BK3_6 : w14_.cell? ⟨g3_, 6, none⟩ = some (.int .i64 r7) := (blk_cell BK3.out 6).trans rfl
  have hz_BK3_7 : w14_.cell? ⟨g3_, 7, none⟩ = some (.slice A_W7 0 c_W7) := (blk_cell BK3.out 7).trans rfl
  have hz_BK4_0 : w14_.cell? ⟨g4_, 0, none⟩ = some (.int .i64 r0) := (blk_cell BK4.out 0).trans rfl
  have hz_BK4_1 : w14_.cell? ⟨g4_, 1, none⟩ = some (.slice A_G1 rb1.length c_G1) := (blk_cell BK4.out 1).trans rfl
  have hz_BK4_2 : w14_.cell? ⟨g4_, 2, none⟩ = some (.int .i64 r3) := (blk_cell BK4.out 2).trans rfl
  have hz_BK4_3 : w14_.cell? ⟨g4_, 3, none⟩ = some (.int .i64 r4) := (blk_cell BK4.out 3).trans rfl
  have hz_BK4_4 : w14_.cell? ⟨g4_, 4, none⟩ = some (.int .i64 r5) := (blk_cell BK4.out 4).trans rfl
  have hz_BK4_5 : w14_.cell? ⟨g4_, 5, none⟩ = some (.slice A_G5 rb5.length c_G5) := (blk_cell BK4.out 5).trans rfl
  have hz_BK4_6 : w14_.cell? ⟨g4_, 6, none⟩ = some (.int .i64 r7) := (blk_cell BK4.out 6).trans rfl
  have hz_BK4_7 : w14_.cell? ⟨g4_, 7, none⟩ = some (.slice A_G7 0 c_G7) := (blk_cell BK4.out 7).trans rfl
  have hz_BK7_0 : w14_.cell? ⟨g7_, 0, none⟩ = some (.int .i64 r0) := (blk_cell BK7.out 0).trans rfl
  have hz_BK7_1 : w14_.cell? ⟨g7_, 1, none⟩ = some (.slice A_H1 rb1.length c_H1) := (blk_cell BK7.out 1).trans rfl
  have hz_BK7_2 : w14_.cell? ⟨g7_, 2, none⟩ = some (.int .i64 r3) := (blk_cell BK7.out 2).trans rfl
  have hz_BK7_3 : w14_.cell? ⟨g7_, 3, none⟩ = some (.int .i64 r4) := (blk_cell BK7.out 3).trans rfl
  have hz_BK7_4 : w14_.cell? ⟨g7_, 4, none⟩ = some (.int .i64 r5) := (blk_cell BK7.out 4).trans rfl
  have hz_BK7_5 : w14_.cell? ⟨g7_, 5, none⟩ = some (.slice A_H5 rb5.length c_H5) := (blk_cell BK7.out 5).trans rfl
  have hz_BK7_6 : w14_.cell? ⟨g7_, 6, none⟩ = some (.int .i64 r7) := (blk_cell BK7.out 6).trans rfl
  have hz_BK7_7 : w14_.cell? ⟨g7_, 7, none⟩ = some (.slice A_H7 0 c_H7) := (blk_cell BK7.out 7).trans rfl
  go_wp2
  go_ret
  exact ⟨rfl, (by repeat (first | (with_reducible first | exact HB.out | apply below_alloc | apply pw_below_drewN | apply below_drew1) | exact HB.out))⟩

end Go.Proofs.Ytcgeajjkfoignaa.S

/- DIRECT: the law FnExactFirstBlock returns true at every argument: the program's FirstBlock and the reference's answer alike, in new memory. No condition. -/
set_option linter.unusedVariables false
namespace Go.Proofs.Ytcgeajjkfoignaa.S
open Go.RowKit Go.Proofs.YtcgeajjkfoignaaW.PrintWords Go.Proofs.YtcgeajjkfoignaaW.PrintLast Go.Proofs.YtcgeajjkfoignaaW.PrintMore Go.Proofs.Ytcgeajjkfoignaa.Base Go.Proofs.Ytcgeajjkfoignaa.Sha
def noneV : List Int := tg (⟨#[110, 111, 110, 101]⟩ : ByteArray) []
theorem noneV_length : noneV.length = 32 := tg_length _ _
theorem impl_none_ev : Ev (fun k => impl_rootOf.f k []) noneV :=
  ev_step (fun k => impl_rootOf.f.eq_2 _ _) (ev_pos (by simp) (ev_bind (ev_now (impl_tag (t := ⟨#[110, 111, 110, 101]⟩) (ls := []) byt_nil (by have h4 : (⟨#[110, 111, 110, 101]⟩ : ByteArray).size = 4 := rfl; simp only [List.flatten_nil, List.length_nil]; omega) (by simp))) (ev_now rfl)))
theorem spec_none_ev : Ev (fun k => spec_l3Root.f k []) noneV :=
  ev_step (fun k => spec_l3Root.f.eq_2 _ _) (ev_pos (by simp) (ev_bind (ev_now (spec_tag (t := ⟨#[110, 111, 110, 101]⟩) byt_nil (by have h4 : (⟨#[110, 111, 110, 101]⟩ : ByteArray).size = 4 := rfl; simp only [List.length_nil]; omega))) (ev_now rfl)))
theorem firstBlock_ex (a : Int) : ∃ (r0 r3 r4 r5 r7 : Int) (l1 l5 : List Int), l1.length ≤ 32 ∧ l5.length ≤ 32 ∧ Ev (fun k => spec_FirstBlock.f k a) (r0, l1, r3, r4, r5, l5, r7, []) ∧ Ev (fun k => impl_FirstBlock.f k a) (r0, l1, r3, r4, r5, l5, r7, []) := by
  by_cases d : 0 ≤ a ∧ a ≤ 1099511627776
  · refine ⟨0, 0, a, 0, 0, List.replicate 32 0, noneV, by simp, Nat.le_of_eq noneV_length, ?_, ?_⟩
    · unfold spec_FirstBlock.f
      exact ev_bind (ev_now (l1In_eq _ _ _)) (ev_pos (decide_eq_true d) (ev_pos (by omega) (ev_bind spec_none_ev (ev_now rfl))))
    · unfold impl_FirstBlock.f
      exact ev_bind (ev_now (in_eq _ _ _)) (ev_pos (decide_eq_true d) (ev_pos (by omega) (ev_bind impl_none_ev (ev_now rfl))))
  · refine ⟨3, 0, 0, 0, 0, [], [], by simp, by simp, ?_, ?_⟩
    · unfold spec_FirstBlock.f
      exact ev_bind (ev_now (l1In_eq _ _ _)) (ev_neg (fun g => d (of_decide_eq_true g)) (ev_now rfl))
    · unfold impl_FirstBlock.f
      exact ev_bind (ev_now (in_eq _ _ _)) (ev_neg (fun g => d (of_decide_eq_true g)) (ev_now rfl))
theorem eqNil_ev : Ev (fun k => laws_eqByteSS.f k [] []) true := by
  unfold laws_eqByteSS.f
  exact ev_pos rfl (ev_step (fun k => laws_eqByteSS.l0.eq_2 _ _ _ _) (ev_neg (by simp) (ev_now rfl)))
theorem heldNil_ev (a : Int) : Ev (fun k => laws_heldByteSS.f k [] a) a := by
  unfold laws_heldByteSS.f
  exact ev_step (fun k => laws_heldByteSS.l0.eq_2 _ _ _ _) (ev_neg (by simp) (ev_now rfl))
end Go.Proofs.Ytcgeajjkfoignaa.S
namespace Go.Proofs.Ytcgeajjkfoignaa.Pure
open Go Go.RowKit Go.Proofs.Ytcgeajjkfoignaa.S Go.Proofs.YtcgeajjkfoignaaW.PrintWords Go.Proofs.YtcgeajjkfoignaaW.PrintLast Go.Proofs.YtcgeajjkfoignaaW.PrintMore Go.Proofs.Ytcgeajjkfoignaa.Base Go.Proofs.Ytcgeajjkfoignaa.Sha

theorem FnExactFirstBlock (a0 : Int) (_w0 : (Lit.int .i64 a0).wf = true) (w : World) :
    Calls Try.prog 5 #[.int .i64 a0] w fun e w' => e = .returned (.bool true) ∧ Below w.heap.size w w' := by
  obtain ⟨r0, r3, r4, r5, r7, l1, l5, h1, h5, hs, hi⟩ := firstBlock_ex a0
  obtain ⟨ks, hs⟩ := hs.rounds
  obtain ⟨ki, hi⟩ := hi.rounds
  obtain ⟨kr, her⟩ := (show Ev (fun k => laws_eqBlockResult.f k r0 l1 r3 r4 r5 l5 r7 [] r0 l1 r3 r4 r5 l5 r7 []) true from by
    unfold laws_eqBlockResult.f laws_eqBlock.f laws_eqHead.f
    exact ev_pos rfl (ev_bind (ev_bind (ev_bind (eqByteS_ev l1 (by omega)) (ev_pos rfl (ev_pos rfl (ev_pos rfl (ev_pos rfl (ev_bind (eqByteS_ev l5 (by omega)) (ev_pos rfl (ev_pos rfl (ev_now rfl))))))))) (ev_pos rfl (ev_bind eqNil_ev (ev_pos rfl (ev_now rfl))))) (ev_pos rfl (ev_now rfl)))).rounds
  obtain ⟨km, hm⟩ := (show Ev (fun k => laws_markHead.f k l1 r3 r4 r5 l5 r7 1) (1 + (l1.length : Int) + (l5.length : Int), marked 1 l1.length, marked (1 + (l1.length : Int)) l5.length) from by
    unfold laws_markHead.f
    exact ev_bind (markByteS_ev l1 1 (by omega) (by omega)) (ev_bind (markByteS_ev l5 (1 + (l1.length : Int)) (by omega) (by omega)) (ev_now rfl))).rounds
  obtain ⟨kh, hh⟩ := (show Ev (fun k => laws_heldBlockResult.f k r0 (marked 1 l1.length) r3 r4 r5 (marked (1 + (l1.length : Int)) l5.length) r7 [] 1) (1 + (l1.length : Int) + (l5.length : Int)) from by
    unfold laws_heldBlockResult.f laws_heldBlock.f laws_heldHead.f
    exact ev_bind (ev_bind (ev_bind (heldByteS_ev l1.length 1 (by omega) (by omega)) (ev_neg (by omega) (ev_bind (heldByteS_ev l5.length (1 + (l1.length : Int)) (by omega) (by omega)) (ev_neg (by omega) (ev_now rfl))))) (ev_neg (by omega) (ev_bind (heldNil_ev _) (ev_neg (by omega) (ev_now rfl))))) (ev_neg (by omega) (ev_now rfl))).rounds
  exact law_FirstBlock a0 r0 r3 r4 r5 r7 l1 l5 (1 + (l1.length : Int) + (l5.length : Int)) (marked 1 l1.length) (marked (1 + (l1.length : Int)) l5.length) w kr kh ki km ks hs hi her hm (by omega) (by omega) (marked_length _ _) (marked_length _ _) hh
end Go.Proofs.Ytcgeajjkfoignaa.Pure
