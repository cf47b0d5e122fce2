import Derived.Test.YtmmhghddldhogaaBase
import Derived.Test.YtmmhghddldhogaaSxSpecL1
import Derived.Test.YtmmhghddldhogaaSxSpecL1
import Derived.Test.YtmmhghddldhogaaSxImplPackedY
import Derived.Test.YtmmhghddldhogaaSxImplPackWords
import Derived.Test.YtmmhghddldhogaaSxSpecPackWords
import Derived.Test.YtmmhghddldhogaaSxSpecL1
import Derived.Test.YtmmhghddldhogaaSxSpecDrawPackWords
import Derived.Test.YtmmhghddldhogaaSxSpecDrawUnpackWords
import Derived.Test.YtmmhghddldhogaaSxImplUnpackWords
import Derived.Test.YtmmhghddldhogaaSxSpecUnpackWords
import Derived.Test.YtmmhghddldhogaaSxBytesClone
import Derived.Test.YtmmhghddldhogaaSxLawsFnWords
import Derived.Test.YtmmhghddldhogaaSxLawsHelp
/- What the reference's draws come to, as far as the laws need it: each ends, in bounds. For every code that fits. -/
set_option linter.unusedVariables false
namespace Go.Proofs.Ytmmhghddldhogaa.S
open Go.RowKit Go.Proofs.YtmmhghddldhogaaW.PrintWords Go.Proofs.YtmmhghddldhogaaW.PrintLast Go.Proofs.YtmmhghddldhogaaW.PrintMore Go.Proofs.Ytmmhghddldhogaa.Base

theorem tmod_range {a n : Int} (h0 : 0 ≤ a) (h1 : 1 ≤ n) : 0 ≤ Int.tmod a n ∧ Int.tmod a n < n := by
  rw [Int.tmod_eq_emod_of_nonneg h0]
  exact ⟨Int.emod_nonneg _ (by omega), Int.emod_lt_of_pos _ (by omega)⟩
theorem next_ok {c : List Int} (hc : Byt c) {at_ : Int} (h0 : 0 ≤ at_) (h1 : at_ ≤ 1099511627776) (n : Int) : ∃ v, spec_l1Next.f c at_ n = some (v, at_ + 1) ∧ 0 ≤ v ∧ (v < n ∨ v = 0) := by
  unfold spec_l1Next.f
  rw [w64 (n := at_ + 1) (by omega) (by omega), w64 (n := at_ + 1 - 1) (by omega) (by omega), show at_ + 1 - 1 = at_ by omega]
  by_cases hn : n < 1
  · exact ⟨0, by rw [if_pos hn], by omega, .inr rfl⟩
  rw [if_neg hn]
  by_cases hl : (c.length : Int) = 0
  · rw [if_pos hl, if_neg (by omega), w64 (n := at_ * 7) (by omega) (by omega)]
    have := tmod_range (a := at_ * 7) (n := n) (by omega) (by omega)
    exact ⟨_, rfl, this.1, .inl this.2⟩
  rw [if_neg hl]
  have hp := tmod_range (a := at_) (n := (c.length : Int)) h0 (by omega)
  have hp2 := tmod_range (a := at_ + 1) (n := (c.length : Int)) (by omega) (by omega)
  have hq : 0 ≤ Int.tdiv at_ (c.length : Int) ∧ Int.tdiv at_ (c.length : Int) ≤ at_ := by
    rw [Int.tdiv_eq_ediv_of_nonneg h0]
    exact ⟨Int.ediv_nonneg h0 (by omega), Int.ediv_le_self _ h0⟩
  rw [if_pos hp.1, if_pos hp.2]
  have hb1 := byt_rd hc (Int.tmod at_ (c.length : Int))
  generalize rd c (Int.tmod at_ (c.length : Int)) = b1 at *
  generalize Int.tdiv at_ (c.length : Int) = q at *
  rw [w64 (n := b1) (by omega) (by omega), w64 (n := q) (by omega) (by omega), w64 (n := q * 37) (by omega) (by omega), w64 (n := b1 + q * 37) (by omega) (by omega)]
  by_cases hg : n > 200
  · rw [if_pos hg, w64 (n := at_ + 1) (by omega) (by omega), if_pos hp2.1, if_pos hp2.2, if_neg (by omega)]
    have hb2 := byt_rd hc (Int.tmod (at_ + 1) (c.length : Int))
    generalize rd c (Int.tmod (at_ + 1) (c.length : Int)) = b2 at *
    rw [w64 (n := b2) (by omega) (by omega), w64 (n := b2 * 13) (by omega) (by omega), w64 (n := (b1 + q * 37) * 251) (by omega) (by omega), w64 (n := (b1 + q * 37) * 251 + b2 * 13) (by omega) (by omega), w64 (n := (b1 + q * 37) * 251 + b2 * 13 + at_) (by omega) (by omega)]
    have := tmod_range (a := (b1 + q * 37) * 251 + b2 * 13 + at_) (n := n) (by omega) (by omega)
    exact ⟨_, rfl, this.1, .inl this.2⟩
  · rw [if_neg hg, if_neg (by omega)]
    have := tmod_range (a := b1 + q * 37) (n := n) (by omega) (by omega)
    exact ⟨_, rfl, this.1, .inl this.2⟩
theorem some_l0 {c : List Int} (hc : Byt c) : ∀ (n : Nat) (x : List Int) (at_ : Int), 0 ≤ at_ → at_ + n ≤ 1099511627776 → Byt x → x.length + n ≤ 100000000 → ∃ r, Ev (fun k => spec_l1Some.l0 k (n : Int) x c at_) (r, at_ + n) ∧ Byt r ∧ r.length = x.length + n := by
  intro n
  induction n with
  | zero =>
    intro x at_ h0 h1 hx hl
    exact ⟨x, ev_step (fun k => spec_l1Some.l0.eq_2 _ _ _ _ _) (ev_neg (by omega) (ev_now (by simp))), hx, by omega⟩
  | succ n ih =>
    intro x at_ h0 h1 hx hl
    obtain ⟨v, hv, hv0, _⟩ := next_ok hc h0 (by omega) 256
    obtain ⟨r, hr, hb, hrl⟩ := ih (x ++ [v % 256]) (at_ + 1) (by omega) (by omega) (byt_append hx (byt_one (by omega) (by omega))) (by simp; omega)
    refine ⟨r, ev_step (fun k => spec_l1Some.l0.eq_2 _ _ _ _ _) (ev_pos (by omega) (ev_bind (ev_now hv) (ev_pos (by omega) ?_))), hb, by rw [hrl]; simp; omega⟩
    rw [w64 (by omega) (by omega), show ((n + 1 : Nat) : Int) - 1 = (n : Int) by omega]
    rw [show at_ + ((n + 1 : Nat) : Int) = at_ + 1 + (n : Int) by omega]
    exact hr
theorem some_ok {c : List Int} (hc : Byt c) (n at_ : Int) (h0 : 0 ≤ at_) (h1 : at_ ≤ 1000000000) (hn : n ≤ 100000) : ∃ r a, Ev (fun k => spec_l1Some.f k c at_ n) (r, a) ∧ Byt r ∧ r.length = n.toNat ∧ at_ ≤ a ∧ a ≤ at_ + 100000 := by
  by_cases h : 0 ≤ n
  · obtain ⟨r, hr, hb, hl⟩ := some_l0 hc n.toNat [] at_ h0 (by omega) byt_nil (by simp; omega)
    refine ⟨r, at_ + n.toNat, ?_, hb, by rw [hl]; simp, by omega, by omega⟩
    unfold spec_l1Some.f
    rw [Int.toNat_of_nonneg h] at hr
    rw [Int.toNat_of_nonneg h]
    exact hr
  · refine ⟨[], at_, ?_, byt_nil, by simp; omega, by omega, by omega⟩
    unfold spec_l1Some.f
    exact ev_step (fun k => spec_l1Some.l0.eq_2 _ _ _ _ _) (ev_neg (by omega) (ev_now rfl))
theorem pick_ok {c : List Int} (hc : Byt c) {at_ : Int} (h0 : 0 ≤ at_) (h1 : at_ ≤ 1099511627776) (L : List Int) (hL : 0 < L.length) : ∃ v, spec_l1Pick.f c at_ L = some (v, at_ + 1) ∧ v ∈ L := by
  obtain ⟨v, hv, hv0, hv1⟩ := next_ok hc h0 h1 (L.length : Int)
  unfold spec_l1Pick.f
  rw [hv, Option.bind_some, if_pos hv0, if_pos (by show v < _; omega)]
  refine ⟨rd L v, rfl, ?_⟩
  obtain ⟨j, rfl⟩ := Int.eq_ofNat_of_zero_le hv0
  rw [rd_nat L j (by omega)]
  exact List.getElem_mem _
end Go.Proofs.Ytmmhghddldhogaa.S

/- Words behind one another, each with its length ahead: what the program's packed and the reference's l1Pack come to. -/
set_option linter.unusedVariables false
namespace Go.Proofs.Ytmmhghddldhogaa.S
open Go.RowKit Go.Proofs.YtmmhghddldhogaaW.PrintWords Go.Proofs.YtmmhghddldhogaaW.PrintLast Go.Proofs.YtmmhghddldhogaaW.PrintMore Go.Proofs.Ytmmhghddldhogaa.Base

/-- Words behind one another, each with its length ahead. -/
def packL : List (List Int) → List Int
  | [] => []
  | w :: ws => (((w.length : Int) % 256) :: w) ++ packL ws
theorem packL_cons_length (w : List Int) (ws : List (List Int)) : (packL (w :: ws)).length = 1 + w.length + (packL ws).length := by
  simp [packL]
  omega
theorem rdW (l : List (List Int)) (i : Nat) (h : i < l.length) : rd_L2 l (i : Int) = l[i] := by
  unfold rd_L2
  simp [List.getD_eq_getElem?_getD, List.getElem?_eq_getElem h]
theorem l1Pack_l0 (ws : List (List Int)) (hw : ws.length ≤ 1048576) : ∀ (d i : Nat) (y : List Int), i + d = ws.length → y.length + (packL (ws.drop i)).length < 140737488355328 → Ev (fun k => spec_l1Pack.l0 k ws y (i : Int)) (y ++ packL (ws.drop i)) := by
  intro d
  induction d with
  | zero =>
    intro i y hi hl
    rw [List.drop_of_length_le (by omega)]
    exact ev_step (fun k => spec_l1Pack.l0.eq_2 _ _ _ _) (ev_neg (by omega) (ev_now (by simp [packL])))
  | succ d ih =>
    intro i y hi hl
    rw [List.drop_eq_getElem_cons (by omega)] at hl ⊢
    rw [packL_cons_length] at hl
    refine ev_step (fun k => spec_l1Pack.l0.eq_2 _ _ _ _) (ev_pos (by omega) (ev_pos (by omega) (ev_pos (by omega) ?_)))
    rw [rdW ws i (by omega)]
    refine ev_bind (ev_now rfl) (ev_pos (by simp; omega) ?_)
    rw [w64s (by omega)]
    refine ev_eq (ih (i + 1) _ (by omega) (by simp; omega)) ?_
    simp [packL]
theorem l1Pack_ev (ws : List (List Int)) (hw : ws.length ≤ 1048576) (hl : (packL ws).length < 140737488355328) : Ev (fun k => spec_l1Pack.f k ws) (packL ws) := by
  have h := l1Pack_l0 ws hw ws.length 0 [] (by omega) (by simpa using hl)
  unfold spec_l1Pack.f
  simpa using h
/-- The words that are packed, and whether they are few and short. -/
def packedV (ws : List (List Int)) : List Int × Bool := if ws.length > 60 then ([], false) else if (∀ w ∈ ws, w.length ≤ 200) ∧ (packL ws).length ≤ 4000 then (packL ws, true) else ([], false)
theorem packed_l0 (ws : List (List Int)) (hw : ws.length ≤ 60) (hs : ∀ w ∈ ws, w.length ≤ 9223372036854771000) : ∀ (d i : Nat) (y : List Int), i + d = ws.length → y.length ≤ 4000 → Ev (fun k => impl_packed.l0 k y ws (ws.length : Int) (i : Int)) (if (∀ w ∈ ws.drop i, w.length ≤ 200) ∧ y.length + (packL (ws.drop i)).length ≤ 4000 then (y ++ packL (ws.drop i), true) else ([], false)) := by
  intro d
  induction d with
  | zero =>
    intro i y hi hl
    rw [List.drop_of_length_le (by omega)]
    rw [if_pos ⟨fun w hw => (by cases hw), (by simpa [packL] using hl)⟩]
    exact ev_step (fun k => impl_packed.l0.eq_2 _ _ _ _ _) (ev_neg (by omega) (ev_now (by simp [packL])))
  | succ d ih =>
    intro i y hi hl
    rw [List.drop_eq_getElem_cons (by omega)]
    have hsi := hs ws[i] (List.getElem_mem _)
    refine ev_step (fun k => impl_packed.l0.eq_2 _ _ _ _ _) (ev_pos (by omega) (ev_pos (by omega) (ev_pos (by omega) ?_)))
    rw [rdW ws i (by omega), packL_cons_length]
    by_cases c : ws[i].length > 200
    · rw [if_neg (fun h => by have := h.1 ws[i] List.mem_cons_self; omega)]
      exact ev_pos (by omega) (ev_now rfl)
    · refine ev_neg (by omega) ?_
      rw [w64 (n := (y.length : Int) + 1) (by omega) (by omega), w64 (n := (y.length : Int) + 1 + (ws[i].length : Int)) (by omega) (by omega)]
      by_cases e : (y.length : Int) + 1 + (ws[i].length : Int) > 4000
      · rw [if_neg (fun h => by omega)]
        exact ev_pos e (ev_now rfl)
      · refine ev_neg e (ev_pos (by omega) (ev_bind (ev_now rfl) (ev_pos (by simp; omega) ?_)))
        rw [w64s (by omega)]
        refine ev_eq (ih (i + 1) _ (by omega) (by simp; omega)) ?_
        have hq : ((∀ w ∈ ws[i] :: ws.drop (i + 1), w.length ≤ 200) ∧ y.length + (1 + ws[i].length + (packL (ws.drop (i + 1))).length) ≤ 4000) ↔ ((∀ w ∈ ws.drop (i + 1), w.length ≤ 200) ∧ (y ++ [(ws[i].length : Int) % 256] ++ ws[i]).length + (packL (ws.drop (i + 1))).length ≤ 4000) := by
          have hlen : (y ++ [(ws[i].length : Int) % 256] ++ ws[i]).length = y.length + 1 + ws[i].length := by simp; omega
          rw [hlen]
          constructor
          · rintro ⟨h1, h2⟩
            exact ⟨fun w hw => h1 w (List.mem_cons_of_mem _ hw), by omega⟩
          · rintro ⟨h1, h2⟩
            refine ⟨fun w hw => ?_, by omega⟩
            rcases List.mem_cons.1 hw with rfl | hw
            · omega
            · exact h1 w hw
        by_cases g : (∀ w ∈ ws[i] :: ws.drop (i + 1), w.length ≤ 200) ∧ y.length + (1 + ws[i].length + (packL (ws.drop (i + 1))).length) ≤ 4000
        · rw [if_pos g, if_pos (hq.1 g)]
          simp [packL]
        · rw [if_neg g, if_neg (fun h => g (hq.2 h))]
theorem packed_ev (ws : List (List Int)) (hs : ∀ w ∈ ws, w.length ≤ 9223372036854771000) : Ev (fun k => impl_packed.f k ws) (packedV ws) := by
  unfold impl_packed.f packedV
  by_cases c : ws.length > 60
  · rw [if_pos c]; exact ev_pos (by omega) (ev_now rfl)
  · rw [if_neg c]
    have h := packed_l0 ws (by omega) hs ws.length 0 [] (by omega) (by simp)
    simp only [List.drop_zero, List.length_nil, Nat.zero_add, List.nil_append] at h
    exact ev_neg (by omega) h
end Go.Proofs.Ytmmhghddldhogaa.S

/- Words that are packed: what the program's PackWords and the reference's come to. For few words that fit. -/
set_option linter.unusedVariables false
namespace Go.Proofs.Ytmmhghddldhogaa.S
open Go.RowKit Go.Proofs.YtmmhghddldhogaaW.PrintWords Go.Proofs.YtmmhghddldhogaaW.PrintLast Go.Proofs.YtmmhghddldhogaaW.PrintMore Go.Proofs.Ytmmhghddldhogaa.Base

def packWordsV (ws : List (List Int)) : Int × List Int := if ws.length > 60 then (2, []) else if (∀ w ∈ ws, w.length ≤ 200) ∧ (packL ws).length ≤ 4000 then (0, packL ws) else (2, [])
theorem impl_PackWords_ev {ws : List (List Int)} (hs : ∀ w ∈ ws, w.length ≤ 9223372036854771000) : Ev (fun k => impl_PackWords.f k ws) (packWordsV ws) := by
  unfold impl_PackWords.f packWordsV
  have h := packed_ev ws hs
  unfold packedV at h
  by_cases c : ws.length > 60
  · rw [if_pos c] at h ⊢
    exact ev_bind h (ev_neg (by simp) (ev_now rfl))
  · rw [if_neg c] at h ⊢
    by_cases d : (∀ w ∈ ws, w.length ≤ 200) ∧ (packL ws).length ≤ 4000
    · rw [if_pos d] at h ⊢
      exact ev_bind h (ev_pos rfl (ev_now rfl))
    · rw [if_neg d] at h ⊢
      exact ev_bind h (ev_neg (by simp) (ev_now rfl))
theorem spec_PackWords_l0 (ws : List (List Int)) (hw : ws.length ≤ 60) (hl : (packL ws).length ≤ 1048576) : ∀ (d i : Nat) (s : Nat), i + d = ws.length → s + (packL (ws.drop i)).length ≤ 2097152 → Ev (fun k => spec_PackWords.l0 k ws (s : Int) (i : Int)) (if (∀ w ∈ ws.drop i, w.length ≤ 200) ∧ s + (packL (ws.drop i)).length ≤ 4000 then (0, packL ws) else (2, [])) := by
  intro d
  induction d with
  | zero =>
    intro i s hi hb
    rw [List.drop_of_length_le (by omega)] at hb ⊢
    refine ev_step (fun k => spec_PackWords.l0.eq_2 _ _ _ _) (ev_neg (by omega) ?_)
    by_cases c : s ≤ 4000
    · rw [if_pos ⟨fun w h => (by cases h), by simpa [packL] using c⟩]
      exact ev_neg (by omega) (ev_bind (l1Pack_ev ws (by omega) (by omega)) (ev_now rfl))
    · rw [if_neg (fun h => by have := h.2; simp [packL] at this; omega)]
      exact ev_pos (by omega) (ev_now rfl)
  | succ d ih =>
    intro i s hi hb
    have hlt : i < ws.length := by omega
    rw [List.drop_eq_getElem_cons hlt, packL_cons_length] at hb ⊢
    refine ev_step (fun k => spec_PackWords.l0.eq_2 _ _ _ _) (ev_pos (by omega) (ev_pos (by omega) ?_))
    rw [rdW ws i hlt]
    by_cases c : ws[i].length > 200
    · rw [if_neg (fun h => by have := h.1 ws[i] List.mem_cons_self; omega)]
      exact ev_pos (by omega) (ev_now rfl)
    · refine ev_neg (by omega) ?_
      rw [w64 (n := (s : Int) + 1) (by omega) (by omega), w64 (n := (s : Int) + 1 + (ws[i].length : Int)) (by omega) (by omega), w64s (by omega), show (s : Int) + 1 + (ws[i].length : Int) = ((s + 1 + ws[i].length : Nat) : Int) by omega]
      refine ev_eq (ih (i + 1) (s + 1 + ws[i].length) (by omega) (by omega)) ?_
      by_cases g : (∀ w ∈ ws.drop (i + 1), w.length ≤ 200) ∧ s + 1 + ws[i].length + (packL (ws.drop (i + 1))).length ≤ 4000
      · rw [if_pos g, if_pos]
        refine ⟨fun w hm => ?_, by omega⟩
        rcases List.mem_cons.1 hm with rfl | hm
        · omega
        · exact g.1 w hm
      · rw [if_neg g, if_neg]
        exact fun h => g ⟨fun w hm => h.1 w (List.mem_cons_of_mem _ hm), by omega⟩
theorem spec_PackWords_ev {ws : List (List Int)} (hl : (packL ws).length ≤ 1048576) : Ev (fun k => spec_PackWords.f k ws) (packWordsV ws) := by
  unfold spec_PackWords.f packWordsV
  by_cases c : ws.length > 60
  · rw [if_pos c]; exact ev_pos (by omega) (ev_now rfl)
  · rw [if_neg c]
    have h := spec_PackWords_l0 ws (by omega) hl ws.length 0 0 (by omega) (by simp; omega)
    simp only [List.drop_zero, Nat.zero_add] at h
    exact ev_neg (by omega) h
theorem packL_len : ∀ {ws : List (List Int)} {m : Nat}, (∀ w ∈ ws, w.length ≤ m) → (packL ws).length ≤ ws.length * (m + 1)
  | [], m, _ => by simp [packL]
  | w :: ws, m, h => by
    rw [packL_cons_length, List.length_cons, Nat.succ_mul]
    have h1 := h w List.mem_cons_self
    have h2 := packL_len (ws := ws) (m := m) (fun v hv => h v (List.mem_cons_of_mem _ hv))
    omega
theorem packLB_byt : ∀ (ws : List (List Int)), (∀ w ∈ ws, Byt w) → Byt (packL ws) := by
  intro ws
  induction ws with
  | nil => intro _; exact byt_nil
  | cons w ws ih =>
    intro h
    show Byt ((((w.length : Int) % 256) :: w) ++ packL ws)
    exact byt_append (byt_append (byt_one (x := (w.length : Int) % 256) (by omega) (by omega)) (h w List.mem_cons_self)) (ih (fun v hv => h v (List.mem_cons_of_mem _ hv)))
end Go.Proofs.Ytmmhghddldhogaa.S

/- The draws of words: each ends, in bounds. For every code that fits. -/
set_option linter.unusedVariables false
namespace Go.Proofs.Ytmmhghddldhogaa.S
open Go.RowKit Go.Proofs.YtmmhghddldhogaaW.PrintWords Go.Proofs.YtmmhghddldhogaaW.PrintLast Go.Proofs.YtmmhghddldhogaaW.PrintMore Go.Proofs.Ytmmhghddldhogaa.Base

theorem byt_set {a : List Int} (ha : Byt a) (i : Nat) {v : Int} (h0 : 0 ≤ v) (h1 : v ≤ 255) : Byt (a.set i v) := fun x hx => by
  rcases List.mem_or_eq_of_mem_set hx with h | h
  · exact ha x h
  · rw [h]; exact ⟨h0, h1⟩
def Wd (x : List (List Int)) : Prop := ∀ w ∈ x, Byt w ∧ w.length ≤ 201
theorem wd_snoc {x : List (List Int)} {w : List Int} (hx : Wd x) (hw : Byt w) (hl : w.length ≤ 201) : Wd (x ++ [w]) := by
  intro v hv
  rcases List.mem_append.1 hv with h | h
  · exact hx v h
  · rw [List.mem_singleton.1 h]; exact ⟨hw, hl⟩
theorem words_l1 {c : List Int} (hc : Byt c) : ∀ (d i : Nat) (x : List (List Int)) (at_ : Int), i + d = 20 → 0 ≤ at_ → at_ ≤ 10000000 + i * 100001 → Wd x → x.length ≤ 1000 + i → ∃ r a, Ev (fun k => spec_l1Words.l1 k x (i : Int) c at_) (r, a) ∧ Wd r ∧ r.length = x.length + d ∧ at_ ≤ a ∧ a ≤ at_ + d * 100001 := by
  intro d
  induction d with
  | zero =>
    intro i x at_ hi h0 h1 hx hl
    exact ⟨x, at_, ev_step (fun k => spec_l1Words.l1.eq_2 _ _ _ _ _) (ev_neg (by omega) (ev_now rfl)), hx, rfl, by omega, by omega⟩
  | succ d ih =>
    intro i x at_ hi h0 h1 hx hl
    obtain ⟨v, hv, hv0, hv1⟩ := next_ok hc h0 (by omega) 2
    obtain ⟨w, a1, hw, hb, hwl, ha, hb1⟩ := some_ok hc (199 + v) (at_ + 1) (by omega) (by omega) (by omega)
    obtain ⟨r, a, hr, hwd, hrl, hra, hrb⟩ := ih (i + 1) (x ++ [w]) a1 (by omega) (by omega) (by omega) (wd_snoc hx hb (by omega)) (by simp; omega)
    refine ⟨r, a, ev_step (fun k => spec_l1Words.l1.eq_2 _ _ _ _ _) (ev_pos (by omega) (ev_bind (ev_now hv) (ev_bind (a := (w, a1)) ?_ (ev_pos (by omega) ?_)))), hwd, by rw [hrl]; simp; omega, by omega, by omega⟩
    · rw [w64 (n := 199 + v) (by omega) (by omega)]
      exact hw
    · rw [w64s (by omega)]
      exact hr
theorem words_l0 {c : List Int} (hc : Byt c) : ∀ (n : Nat) (x : List (List Int)) (at_ : Int), n ≤ 6 → 0 ≤ at_ → at_ ≤ 1000000 - n * 100003 → Wd x → x.length + n ≤ 7 → ∃ r a, Ev (fun k => spec_l1Words.l0 k x (n : Int) c at_) (r, a) ∧ Wd r ∧ r.length ≤ 61 ∧ 0 ≤ a ∧ a ≤ 10000000 := by
  intro n
  induction n with
  | zero =>
    intro x at_ hn h0 h1 hx hl
    obtain ⟨v, hv, hv0, hv1⟩ := next_ok hc h0 (by omega) 30
    by_cases c0 : v = 0
    · obtain ⟨v2, hv2, _, _⟩ := next_ok hc (at_ := at_ + 1) (by omega) (by omega) 2
      obtain ⟨w, a1, hw, hb, hwl, ha, hb1⟩ := some_ok hc (200 + v2) (at_ + 1 + 1) (by omega) (by omega) (by omega)
      refine ⟨x ++ [w], a1, ev_step (fun k => spec_l1Words.l0.eq_2 _ _ _ _ _) (ev_neg (by omega) (ev_bind (ev_now hv) (ev_pos c0 (ev_bind (ev_now hv2) (ev_bind (a := (w, a1)) ?_ (ev_pos (by omega) (ev_now rfl))))))), wd_snoc hx hb (by omega), by simp; omega, by omega, by omega⟩
      rw [w64 (n := 200 + v2) (by omega) (by omega)]
      exact hw
    by_cases c1 : v = 1
    · obtain ⟨v2, hv2, _, _⟩ := next_ok hc (at_ := at_ + 1) (by omega) (by omega) 2
      refine ⟨List.replicate (60 + v2).toNat [], at_ + 1 + 1, ev_step (fun k => spec_l1Words.l0.eq_2 _ _ _ _ _) (ev_neg (by omega) (ev_bind (ev_now hv) (ev_neg c0 (ev_pos c1 (ev_bind (ev_now hv2) ?_))))), fun w hw => ?_, by simp; omega, by omega, by omega⟩
      · simp only
        rw [w64 (n := 60 + v2) (by omega) (by omega)]
        exact ev_pos (by omega) (ev_pos (by omega) (ev_now rfl))
      · rw [(List.mem_replicate.1 hw).2]
        exact ⟨byt_nil, by simp⟩
    by_cases c2 : v = 2
    · obtain ⟨r, a, hr, hwd, hrl, hra, hrb⟩ := words_l1 hc 20 0 x (at_ + 1) (by omega) (by omega) (by omega) hx (by omega)
      exact ⟨r, a, ev_step (fun k => spec_l1Words.l0.eq_2 _ _ _ _ _) (ev_neg (by omega) (ev_bind (ev_now hv) (ev_neg c0 (ev_neg c1 (ev_pos c2 hr))))), hwd, by omega, by omega, by omega⟩
    · exact ⟨x, at_ + 1, ev_step (fun k => spec_l1Words.l0.eq_2 _ _ _ _ _) (ev_neg (by omega) (ev_bind (ev_now hv) (ev_neg c0 (ev_neg c1 (ev_neg c2 (ev_now rfl)))))), hx, by omega, by omega, by omega⟩
  | succ n ih =>
    intro x at_ hn h0 h1 hx hl
    obtain ⟨v, hv, hv0, hv1⟩ := next_ok hc h0 (by omega) 9
    obtain ⟨u, hu, hu0, hu1⟩ := next_ok hc (at_ := at_ + 1) (by omega) (by omega) 30
    obtain ⟨p, hp, hpm⟩ := pick_ok hc (at_ := at_ + 1 + 1) (by omega) (by omega) [v, 0, 1, u] (by simp)
    have hp30 : p ≤ 30 := by
      simp only [List.mem_cons, List.not_mem_nil, or_false] at hpm
      omega
    obtain ⟨w, a1, hw, hb, hwl, ha, hb1⟩ := some_ok hc p (at_ + 1 + 1 + 1) (by omega) (by omega) (by omega)
    obtain ⟨r, a, hr, hwd, hrl, hra, hrb⟩ := ih (x ++ [w]) a1 (by omega) (by omega) (by omega) (wd_snoc hx hb (by omega)) (by simp; omega)
    refine ⟨r, a, ev_step (fun k => spec_l1Words.l0.eq_2 _ _ _ _ _) (ev_pos (by omega) (ev_bind (ev_now hv) (ev_bind (ev_now hu) (ev_bind (ev_now hp) (ev_bind hw (ev_pos (by omega) ?_)))))), hwd, hrl, hra, hrb⟩
    rw [w64 (by omega) (by omega), show ((n + 1 : Nat) : Int) - 1 = (n : Int) by omega]
    exact hr
theorem words_ok {c : List Int} (hc : Byt c) : ∃ r a, Ev (fun k => spec_l1Words.f k c 0) (r, a) ∧ Wd r ∧ r.length ≤ 61 ∧ 0 ≤ a ∧ a ≤ 10000000 := by
  obtain ⟨v, hv, hv0, hv1⟩ := next_ok hc (at_ := 0) (by omega) (by omega) 6
  obtain ⟨r, a, hr, h1, h2, h3, h4⟩ := words_l0 hc v.toNat [] (0 + 1) (by omega) (by omega) (by omega) (fun w h => (by cases h)) (by simp; omega)
  refine ⟨r, a, ?_, h1, h2, h3, h4⟩
  rw [Int.toNat_of_nonneg hv0] at hr
  unfold spec_l1Words.f
  exact ev_bind (ev_now hv) hr
theorem drawPackWords_ok {c : List Int} (hc : Byt c) : ∃ r, Ev (fun k => spec_DrawPackWords.f k c) r ∧ Wd r ∧ r.length ≤ 61 := by
  obtain ⟨r, a, hr, h1, h2, _, _⟩ := words_ok hc
  refine ⟨r, ?_, h1, h2⟩
  unfold spec_DrawPackWords.f
  exact ev_bind (ev_now (a := spec_l1Source.f c) (r := (c, 0)) rfl) (ev_bind hr (ev_now rfl))
theorem drawUnpackWords_ok {c : List Int} (hc : Byt c) : ∃ r, Ev (fun k => spec_DrawUnpackWords.f k c) r ∧ Byt r ∧ r.length ≤ 100000 := by
  obtain ⟨ws, a, hr, h1, h2, h3, h4⟩ := words_ok hc
  have hl := packL_len (m := 201) (fun w hw => (h1 w hw).2)
  have hb := packLB_byt ws (fun w hw => (h1 w hw).1)
  have hpk := l1Pack_ev ws (by omega) (by omega)
  generalize packL ws = t at *
  have go : ∀ {r : List Int}, Ev (fun k => (if (t.length : Int) > 0 then ((spec_l1Next.f c a (t.length : Int)).bind fun bt1067 => ((spec_l1Next.f c bt1067.2 5).bind fun bt1069 => (if bt1069.1 = 0 then ((spec_l1Next.f c bt1069.2 256).bind fun bt1071 => (if 0 ≤ bt1067.1 then (if bt1067.1 < (t.length : Int) then (some (t.set (bt1067.1 : Int).toNat ((bt1071.1) % 256))) else (none)) else (none))) else (if bt1069.1 = 1 then (if 0 ≤ bt1067.1 then (if bt1067.1 ≤ (t.length : Int) then (some (t.take (bt1067.1 : Int).toNat)) else (none)) else (none)) else (if bt1069.1 = 2 then ((spec_l1Next.f c bt1069.2 256).bind fun bt1077 => (if t.length < 140737488355328 then (some (t ++ [(bt1077.1) % 256])) else (none))) else (some t)))))) else (some t))) r → Ev (fun k => spec_DrawUnpackWords.f k c) r := by
    intro r h
    unfold spec_DrawUnpackWords.f
    exact ev_bind (ev_now (a := spec_l1Source.f c) (r := (c, 0)) rfl) (ev_bind hr (ev_bind hpk h))
  by_cases c0 : (t.length : Int) > 0
  · obtain ⟨v, hv, hv0, hv1⟩ := next_ok hc h3 (by omega) (t.length : Int)
    obtain ⟨u, hu, hu0, hu1⟩ := next_ok hc (at_ := a + 1) (by omega) (by omega) 5
    obtain ⟨z, hz, hz0, hz1⟩ := next_ok hc (at_ := a + 1 + 1) (by omega) (by omega) 256
    by_cases g0 : u = 0
    · exact ⟨t.set v.toNat (z % 256), go (ev_pos c0 (ev_bind (ev_now hv) (ev_bind (ev_now hu) (ev_pos g0 (ev_bind (ev_now hz) (ev_pos hv0 (ev_pos (by show v < _; omega) (ev_now rfl)))))))), byt_set hb _ (by omega) (by omega), by rw [List.length_set]; omega⟩
    by_cases g1 : u = 1
    · exact ⟨t.take v.toNat, go (ev_pos c0 (ev_bind (ev_now hv) (ev_bind (ev_now hu) (ev_neg g0 (ev_pos g1 (ev_pos hv0 (ev_pos (by show v ≤ _; omega) (ev_now rfl)))))))), byt_take hb _, by rw [List.length_take]; omega⟩
    by_cases g2 : u = 2
    · exact ⟨t ++ [z % 256], go (ev_pos c0 (ev_bind (ev_now hv) (ev_bind (ev_now hu) (ev_neg g0 (ev_neg g1 (ev_pos g2 (ev_bind (ev_now hz) (ev_pos (by omega) (ev_now rfl))))))))), byt_append hb (byt_one (by omega) (by omega)), by simp; omega⟩
    · exact ⟨t, go (ev_pos c0 (ev_bind (ev_now hv) (ev_bind (ev_now hu) (ev_neg g0 (ev_neg g1 (ev_neg g2 (ev_now rfl))))))), hb, by omega⟩
  · exact ⟨t, go (ev_neg c0 (ev_now rfl)), hb, by omega⟩
end Go.Proofs.Ytmmhghddldhogaa.S

/- Words that are unpacked: what the program's and the reference's come to; what is unpacked is packed so again. For all bytes that fit. -/
set_option linter.unusedVariables false
namespace Go.Proofs.Ytmmhghddldhogaa.S
open Go.RowKit Go.Proofs.YtmmhghddldhogaaW.PrintWords Go.Proofs.YtmmhghddldhogaaW.PrintLast Go.Proofs.YtmmhghddldhogaaW.PrintMore Go.Proofs.Ytmmhghddldhogaa.Base

def unpL (n : Nat) : Nat → List Int → Int → List (List Int) → Int × Int × List (List Int)
  | 0, _, _, _ => (0, 0, [])
  | _ + 1, [], _, ws => (0, 0, ws)
  | f + 1, c :: d, p, ws => if ws.length = 60 then (2, p, []) else if c > 200 then (3, p, []) else if c > (d.length : Int) then (5, (n : Int), []) else unpL n f (d.drop c.toNat) (p + 1 + c) (ws ++ [d.take c.toNat])
theorem cut_eq (x : List Int) (p c : Nat) (d : List Int) (y : Int) (h : x.drop p = y :: d) : (x.take (p + 1 + c)).drop (p + 1) = d.take c ∧ x.drop (p + 1 + c) = d.drop c := by
  have h1 : x.drop (p + 1) = d := by rw [← List.drop_drop, h]; rfl
  refine ⟨?_, by rw [← List.drop_drop, h1]⟩
  rw [List.drop_take, show p + 1 + c - (p + 1) = c by omega, h1]
theorem unp_fact (x : List Int) (hx : Byt x) (hl : x.length ≤ 4000) (p : Nat) (d : List Int) (c : Int) (h : x.drop p = c :: d) : p < x.length ∧ rd x (p : Int) = c ∧ 0 ≤ c ∧ c ≤ 255 ∧ d.length = x.length - (p + 1) := by
  have hp : p < x.length := by
    rcases Nat.lt_or_ge p x.length with g | g
    · exact g
    · rw [List.drop_of_length_le g] at h
      cases h
  have h2 := h
  rw [List.drop_eq_getElem_cons hp] at h2
  injection h2 with h3 h4
  have hb := hx x[p] (List.getElem_mem _)
  refine ⟨hp, by rw [rd_nat x p hp, h3], by omega, by omega, ?_⟩
  rw [← h4, List.length_drop]
theorem impl_unp_l0 (x : List Int) (hx : Byt x) (hl : x.length ≤ 4000) : ∀ (f p : Nat) (ws : List (List Int)), p ≤ x.length → x.length - p < f → ws.length ≤ 60 → Ev (fun k => impl_UnpackWords.l0 k x ws (p : Int)) (unpL x.length f (x.drop p) (p : Int) ws) := by
  intro f
  induction f with
  | zero => intro p ws h1 h2; omega
  | succ f ih =>
    intro p ws h1 h2 h3
    cases e : x.drop p with
    | nil =>
      have : x.length ≤ p := by
        have := congrArg List.length e
        rw [List.length_drop] at this
        simp at this
        omega
      exact ev_step (fun k => impl_UnpackWords.l0.eq_2 _ _ _ _) (ev_neg (by omega) (ev_now rfl))
    | cons c d =>
      obtain ⟨hp, hr, hc0, hc1, hd⟩ := unp_fact x hx hl p d c e
      refine ev_step (fun k => impl_UnpackWords.l0.eq_2 _ _ _ _) (ev_pos (by omega) (ev_pos (by omega) ?_))
      rw [hr, w64 (n := c) (by omega) (by omega), w64s (by omega), w64 (n := ((p + 1 : Nat) : Int) + c) (by omega) (by omega)]
      unfold unpL
      by_cases g1 : ws.length = 60
      · rw [if_pos g1]; exact ev_pos (by omega) (ev_now rfl)
      rw [if_neg g1]; refine ev_neg (by omega) ?_
      by_cases g2 : c > 200
      · rw [if_pos g2]; exact ev_pos g2 (ev_now rfl)
      rw [if_neg g2]; refine ev_neg g2 ?_
      by_cases g3 : c > (d.length : Int)
      · rw [if_pos g3]; exact ev_pos (by omega) (ev_now rfl)
      rw [if_neg g3]
      refine ev_neg (by omega) (ev_pos (by omega) (ev_pos (by omega) (ev_pos (by omega) ?_)))
      obtain ⟨cn, rfl⟩ := Int.eq_ofNat_of_zero_le hc0
      rw [show (((p + 1 : Nat) : Int) + (cn : Int)) = ((p + 1 + cn : Nat) : Int) by omega, Int.toNat_natCast, Int.toNat_natCast, (cut_eq x p cn d _ e).1, Int.toNat_natCast]
      refine ev_bind (ev_now (show bytes_Clone.f (d.take cn) = some (d.take cn) from by unfold bytes_Clone.f; rw [if_pos (by rw [List.length_take]; omega)])) (ev_pos (by omega) ?_)
      have h := ih (p + 1 + cn) (ws ++ [d.take cn]) (by omega) (by omega) (by simp; omega)
      rw [(cut_eq x p cn d _ e).2] at h
      rw [show (p : Int) + 1 + (cn : Int) = ((p + 1 + cn : Nat) : Int) by omega]
      exact h
theorem spec_unp_l0 (x : List Int) (hx : Byt x) (hl : x.length ≤ 4000) : ∀ (f p : Nat) (ws : List (List Int)), p ≤ x.length → x.length - p < f → ws.length ≤ 60 → Ev (fun k => spec_UnpackWords.l0 k x (p : Int) 0 0 ws) (unpL x.length f (x.drop p) (p : Int) ws) := by
  intro f
  induction f with
  | zero => intro p ws h1 h2; omega
  | succ f ih =>
    intro p ws h1 h2 h3
    cases e : x.drop p with
    | nil =>
      have : x.length ≤ p := by
        have := congrArg List.length e
        rw [List.length_drop] at this
        simp at this
        omega
      exact ev_step (fun k => spec_UnpackWords.l0.eq_2 _ _ _ _ _ _) (ev_neg (by omega) (ev_now rfl))
    | cons c d =>
      obtain ⟨hp, hr, hc0, hc1, hd⟩ := unp_fact x hx hl p d c e
      refine ev_step (fun k => spec_UnpackWords.l0.eq_2 _ _ _ _ _ _) (ev_pos (by omega) (ev_pos (by omega) ?_))
      rw [hr, w64 (n := c) (by omega) (by omega), w64s (by omega), w64 (n := ((p + 1 : Nat) : Int) + c) (by omega) (by omega)]
      unfold unpL
      by_cases g1 : ws.length = 60
      · rw [if_pos g1]; exact ev_pos (by omega) (ev_now rfl)
      rw [if_neg g1]; refine ev_neg (by omega) ?_
      by_cases g2 : c > 200
      · rw [if_pos g2]; exact ev_pos g2 (ev_now rfl)
      rw [if_neg g2]; refine ev_neg g2 ?_
      by_cases g3 : c > (d.length : Int)
      · rw [if_pos g3]; exact ev_pos (by omega) (ev_now rfl)
      rw [if_neg g3]
      refine ev_neg (by omega) (ev_bind (ev_now rfl) (ev_pos (by omega) (ev_pos (by omega) (ev_pos (by omega) ?_))))
      obtain ⟨cn, rfl⟩ := Int.eq_ofNat_of_zero_le hc0
      rw [show (((p + 1 : Nat) : Int) + (cn : Int)) = ((p + 1 + cn : Nat) : Int) by omega, Int.toNat_natCast, Int.toNat_natCast, (cut_eq x p cn d _ e).1, Int.toNat_natCast]
      refine ev_pos (by rw [List.length_take]; simp; omega) (ev_pos (by omega) ?_)
      have h := ih (p + 1 + cn) (ws ++ [d.take cn]) (by omega) (by omega) (by simp; omega)
      rw [(cut_eq x p cn d _ e).2] at h
      rw [show (p : Int) + 1 + (cn : Int) = ((p + 1 + cn : Nat) : Int) by omega, List.nil_append]
      exact h
def unpackV (x : List Int) : Int × Int × List (List Int) := if x.length > 4000 then (2, 0, []) else unpL x.length (x.length + 1) x 0 []
theorem impl_UnpackWords_ev {x : List Int} (hx : Byt x) : Ev (fun k => impl_UnpackWords.f k x) (unpackV x) := by
  unfold impl_UnpackWords.f unpackV
  by_cases h : x.length > 4000
  · rw [if_pos h]; exact ev_pos (by omega) (ev_now rfl)
  · rw [if_neg h]; exact ev_neg (by omega) (impl_unp_l0 x hx (by omega) (x.length + 1) 0 [] (by omega) (by omega) (by simp))
theorem spec_UnpackWords_ev {x : List Int} (hx : Byt x) : Ev (fun k => spec_UnpackWords.f k x) (unpackV x) := by
  unfold spec_UnpackWords.f unpackV
  by_cases h : x.length > 4000
  · rw [if_pos h]; exact ev_pos (by omega) (ev_now rfl)
  · rw [if_neg h]; exact ev_neg (by omega) (spec_unp_l0 x hx (by omega) (x.length + 1) 0 [] (by omega) (by omega) (by simp))
theorem packL_append : ∀ (a b : List (List Int)), packL (a ++ b) = packL a ++ packL b
  | [], b => rfl
  | w :: a, b => by simp [packL, packL_append a b]
/-- What is unpacked: few words, short ones, of bytes; no code: the bytes are these words'; a code: no words. -/
theorem unpL_ok (n : Nat) : ∀ (f : Nat) (d : List Int) (p : Int) (ws : List (List Int)), Byt d → d.length < f → (∀ w ∈ ws, Byt w ∧ w.length ≤ 200) → ws.length ≤ 60 → 0 ≤ p → p + d.length = n →
    (∀ w ∈ (unpL n f d p ws).2.2, Byt w ∧ w.length ≤ 200) ∧ (unpL n f d p ws).2.2.length ≤ 60 ∧ ((unpL n f d p ws).1 = 0 → packL (unpL n f d p ws).2.2 = packL ws ++ d) ∧ ((unpL n f d p ws).1 ≠ 0 → (unpL n f d p ws).2.2 = [] ∧ (unpL n f d p ws).2.1 ≤ n) ∧ ((unpL n f d p ws).1 = 0 → (unpL n f d p ws).2.1 = 0) := by
  intro f
  induction f with
  | zero => intro d p ws _ h; omega
  | succ f ih =>
    intro d p ws hd hf hw hl hp hn
    cases d with
    | nil => exact ⟨hw, hl, fun _ => by show packL ws = packL ws ++ []; rw [List.append_nil], fun h => absurd rfl h, fun _ => rfl⟩
    | cons c d =>
      have hc := hd c List.mem_cons_self
      have hd2 : Byt d := fun x hx => hd x (List.mem_cons_of_mem _ hx)
      simp only [List.length_cons] at hf hn
      unfold unpL
      by_cases g1 : ws.length = 60
      · rw [if_pos g1]
        exact ⟨fun w h => (by cases h), by simp, fun h => absurd (show (2 : Int) = 0 from h) (by decide), fun _ => ⟨rfl, by show p ≤ (n : Int); omega⟩, fun h => absurd (show (2 : Int) = 0 from h) (by decide)⟩
      rw [if_neg g1]
      by_cases g2 : c > 200
      · rw [if_pos g2]
        exact ⟨fun w h => (by cases h), by simp, fun h => absurd (show (3 : Int) = 0 from h) (by decide), fun _ => ⟨rfl, by show p ≤ (n : Int); omega⟩, fun h => absurd (show (3 : Int) = 0 from h) (by decide)⟩
      rw [if_neg g2]
      by_cases g3 : c > (d.length : Int)
      · rw [if_pos g3]
        exact ⟨fun w h => (by cases h), by simp, fun h => absurd (show (5 : Int) = 0 from h) (by decide), fun _ => ⟨rfl, by show (n : Int) ≤ (n : Int); omega⟩, fun h => absurd (show (5 : Int) = 0 from h) (by decide)⟩
      rw [if_neg g3]
      obtain ⟨cn, rfl⟩ := Int.eq_ofNat_of_zero_le hc.1
      rw [Int.toNat_natCast]
      have ht : (d.take cn).length = cn := by rw [List.length_take]; omega
      have := ih (d.drop cn) (p + 1 + (cn : Int)) (ws ++ [d.take cn]) (byt_drop hd2 cn) (by rw [List.length_drop]; omega) (fun w hw2 => by
        rcases List.mem_append.1 hw2 with h | h
        · exact hw w h
        · rw [List.mem_singleton.1 h]
          exact ⟨byt_take hd2 cn, by omega⟩) (by simp; omega) (by omega) (by rw [List.length_drop]; omega)
      obtain ⟨a1, a2, a3, a4, a5⟩ := this
      refine ⟨a1, a2, fun h => ?_, a4, a5⟩
      rw [a3 h, packL_append]
      have e1 : packL [d.take cn] = ((cn : Int)) :: d.take cn := by
        show ((((d.take cn).length : Int) % 256) :: d.take cn) ++ [] = _
        rw [ht, List.append_nil, Int.emod_eq_of_lt (by omega) (by omega)]
      rw [e1, List.append_assoc, List.cons_append, List.take_append_drop]
theorem unpackV_ok {x : List Int} (hx : Byt x) : (∀ w ∈ (unpackV x).2.2, Byt w ∧ w.length ≤ 200) ∧ (unpackV x).2.2.length ≤ 60 ∧ ((unpackV x).1 = 0 → packL (unpackV x).2.2 = x) ∧ ((unpackV x).1 ≠ 0 → (unpackV x).2.2 = [] ∧ (unpackV x).2.1 ≤ x.length) ∧ ((unpackV x).1 = 0 → (unpackV x).2.1 = 0) := by
  unfold unpackV
  by_cases h : x.length > 4000
  · rw [if_pos h]
    exact ⟨fun w h => (by cases h), by simp, fun h => absurd (show (2 : Int) = 0 from h) (by decide), fun _ => ⟨rfl, by show (0 : Int) ≤ _; omega⟩, fun h => absurd (show (2 : Int) = 0 from h) (by decide)⟩
  · rw [if_neg h]
    have := unpL_ok x.length (x.length + 1) x 0 [] hx (by omega) (fun w h => (by cases h)) (by simp) (by omega) (by omega)
    exact this
/-- Words that are packed are unpacked as they were. -/
theorem unpL_pack (n : Nat) : ∀ (vs : List (List Int)) (f : Nat) (p : Int) (ws : List (List Int)), (∀ w ∈ vs, w.length ≤ 200) → (packL vs).length < f → ws.length + vs.length ≤ 60 → unpL n f (packL vs) p ws = (0, 0, ws ++ vs) := by
  intro vs
  induction vs with
  | nil =>
    intro f p ws _ hf _
    obtain ⟨f, rfl⟩ : ∃ m, f = m + 1 := ⟨f - 1, by simp [packL] at hf; omega⟩
    show (0, 0, ws) = _
    rw [List.append_nil]
  | cons v vs ih =>
    intro f p ws hw hf hl
    have hv := hw v List.mem_cons_self
    rw [packL_cons_length] at hf
    simp only [List.length_cons] at hl
    obtain ⟨f, rfl⟩ : ∃ m, f = m + 1 := ⟨f - 1, by omega⟩
    have e : packL (v :: vs) = (v.length : Int) :: (v ++ packL vs) := by
      show ((v.length : Int) % 256 :: v) ++ packL vs = _
      rw [Int.emod_eq_of_lt (by omega) (by omega)]
      rfl
    rw [e]
    unfold unpL
    rw [if_neg (by omega), if_neg (by omega), if_neg (by rw [List.length_append]; omega), Int.toNat_natCast, List.drop_left, List.take_left, ih f _ _ (fun w h => hw w (List.mem_cons_of_mem _ h)) (by omega) (by simp; omega), List.append_assoc]
    rfl
theorem unpackV_pack {vs : List (List Int)} (hw : ∀ w ∈ vs, w.length ≤ 200) (hl : vs.length ≤ 60) (hn : (packL vs).length ≤ 4000) : unpackV (packL vs) = (0, 0, vs) := by
  unfold unpackV
  rw [if_neg (by omega), unpL_pack _ vs _ _ [] hw (by omega) (by simpa using hl)]
  rfl
end Go.Proofs.Ytmmhghddldhogaa.S

/- Words that are packed are unpacked as they were, and bytes that are unpacked are packed so again: the law FnWords. No condition. -/
set_option linter.unusedVariables false
namespace Go.Proofs.Ytmmhghddldhogaa.S
open Go.RowKit Go.Proofs.YtmmhghddldhogaaW.PrintWords Go.Proofs.YtmmhghddldhogaaW.PrintLast Go.Proofs.YtmmhghddldhogaaW.PrintMore Go.Proofs.Ytmmhghddldhogaa.Base

theorem lw_same (l : List Int) : laws_lwBytes.f l l = some true := by
  unfold laws_lwBytes.f
  rw [beq_self_eq_true]
theorem words_second {c : List Int} (hc : Byt c) : Ev (fun k => (spec_DrawUnpackWords.f k c).bind fun t1104 => ((impl_UnpackWords.f k t1104).bind fun bt1107 => (if bt1107.1 = 0 then ((impl_PackWords.f k bt1107.2.2).bind fun bt1113 => ((laws_lwBytes.f bt1113.2 t1104).bind fun t1117 => (some t1117))) else ((spec_UnpackWords.f k t1104).bind fun bt1118 => (if bt1118.1 = bt1107.1 then (some (decide (bt1107.2.1 ≤ (t1104.length : Int)))) else (none)))))) true := by
  obtain ⟨t, ht, hb, hl⟩ := drawUnpackWords_ok hc
  have hi := impl_UnpackWords_ev hb
  have hs := spec_UnpackWords_ev hb
  obtain ⟨h1, h2, h3, h4, h5⟩ := unpackV_ok hb
  have h6 : (unpackV t).1 = 0 → t.length ≤ 4000 := by
    intro h
    unfold unpackV at h
    split at h
    · cases h
    · omega
  generalize unpackV t = r at *
  refine ev_bind ht (ev_bind hi ?_)
  by_cases c0 : r.1 = 0
  · have e := h3 c0
    have e2 := h6 c0
    have hp := impl_PackWords_ev (ws := r.2.2) (fun w hw => by have := (h1 w hw).2; omega)
    have hv : packWordsV r.2.2 = (0, t) := by
      unfold packWordsV
      rw [if_neg (by omega), e, if_pos ⟨fun w hw => (h1 w hw).2, e2⟩]
    rw [hv] at hp
    exact ev_pos c0 (ev_bind hp (ev_bind (ev_now (lw_same t)) (ev_now rfl)))
  · exact ev_neg c0 (ev_bind hs (ev_pos rfl (ev_now (by rw [decide_eq_true (h4 c0).2]))))
theorem words_first {c : List Int} (hc : Byt c) (ws : List (List Int)) (hw : ws.length ≤ 1000) : ∀ (d i : Nat), i + d = ws.length → Ev (fun k => laws_FnWords.l0 k c ws (i : Int) 0 0 ws) true := by
  intro d
  induction d with
  | zero =>
    intro i h
    exact ev_step (fun k => laws_FnWords.l0.eq_2 _ _ _ _ _ _ _) (ev_neg (by omega) (words_second hc))
  | succ d ih =>
    intro i h
    refine ev_step (fun k => laws_FnWords.l0.eq_2 _ _ _ _ _ _ _) (ev_pos (by omega) (ev_pos (by omega) (ev_pos (by omega) (ev_bind (ev_now (lw_same _)) (ev_pos rfl ?_)))))
    rw [w64s (by omega)]
    exact ih (i + 1) (by omega)
end Go.Proofs.Ytmmhghddldhogaa.S
namespace Go.Proofs.Ytmmhghddldhogaa.Pure
open Go.RowKit Go.Proofs.Ytmmhghddldhogaa.S Go.Proofs.YtmmhghddldhogaaW.PrintWords Go.Proofs.YtmmhghddldhogaaW.PrintLast Go.Proofs.YtmmhghddldhogaaW.PrintMore Go.Proofs.Ytmmhghddldhogaa.Base

theorem FnWords : laws_FnWords.Pure := by
  intro l0 _ hsz hwf
  refine Ev.rounds ?_
  unfold laws_FnWords.f
  by_cases hc : (l0.length : Int) > 1048576
  · exact ev_bind (ev_now (show laws_lwBig.f l0 = some (decide ((l0.length : Int) > 1048576)) from rfl)) (ev_pos (by simpa using hc) (ev_now rfl))
  refine ev_bind (ev_now (show laws_lwBig.f l0 = some (decide ((l0.length : Int) > 1048576)) from rfl)) (ev_neg (by simpa using hc) ?_)
  have hy := byt_of_wf hwf
  obtain ⟨ws, hd, hwd, hwl⟩ := drawPackWords_ok hy
  have hl := packL_len (m := 201) (fun w hw => (hwd w hw).2)
  have hi := impl_PackWords_ev (ws := ws) (fun w hw => by have := (hwd w hw).2; omega)
  have hs := spec_PackWords_ev (ws := ws) (by omega)
  refine ev_bind hd (ev_bind hi ?_)
  by_cases c0 : (packWordsV ws).1 = 0
  · have hv : ws.length ≤ 60 ∧ (∀ w ∈ ws, w.length ≤ 200) ∧ (packL ws).length ≤ 4000 ∧ packWordsV ws = (0, packL ws) := by
      unfold packWordsV at c0 ⊢
      by_cases g : ws.length > 60
      · rw [if_pos g] at c0; cases c0
      · rw [if_neg g] at c0 ⊢
        by_cases g2 : (∀ w ∈ ws, w.length ≤ 200) ∧ (packL ws).length ≤ 4000
        · exact ⟨by omega, g2.1, g2.2, by rw [if_pos g2]⟩
        · rw [if_neg g2] at c0; cases c0
    obtain ⟨g1, g2, g3, g4⟩ := hv
    have hu := impl_UnpackWords_ev (x := packL ws) (packLB_byt ws (fun w hw => (hwd w hw).1))
    rw [unpackV_pack g2 g1 g3] at hu
    rw [g4]
    refine ev_pos rfl (ev_bind hu (ev_pos rfl ?_))
    refine ev_step (fun k => laws_FnWords.j0.eq_2 _ _ _ _ _ _ _) (ev_neg (by simp) ?_)
    exact words_first hy ws (by omega) ws.length 0 (by omega)
  · exact ev_neg c0 (ev_bind hs (ev_now (by rw [beq_self_eq_true])))
end Go.Proofs.Ytmmhghddldhogaa.Pure
