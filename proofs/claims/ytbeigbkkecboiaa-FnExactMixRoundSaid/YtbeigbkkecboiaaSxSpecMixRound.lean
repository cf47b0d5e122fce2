/- Each function of the program that stands below is a plain Lean function, and the call of the program comes to what that function says. No condition beyond those in the statements. -/
import Derived.Test.YtbeigbkkecboiaaSx0
import Derived.Test.YtbeigbkkecboiaaSxSpecL2
import Derived.Test.YtbeigbkkecboiaaBase
import Derived.Test.YtbeigbkkecboiaaShaS
import Derived.WalkSpells
import Derived.StillTailTactics
import Derived.BigQuiet
namespace Go.Proofs.Ytbeigbkkecboiaa.S
open Go.RowKit Go.Proofs.YtbeigbkkecboiaaW.PrintWords Go.Proofs.YtbeigbkkecboiaaW.PrintLast Go.Proofs.YtbeigbkkecboiaaW.PrintMore
attribute [local go_sem] max2_int min2_int max_two min_two max_three min_three max_four min_four   -- for this text's walks alone
set_option linter.unusedVariables false
set_option linter.unusedSimpArgs false

-- IMPORT Derived.Test.YtbeigbkkecboiaaBase
-- IMPORT Derived.Test.YtbeigbkkecboiaaShaS
-- IMPORT Derived.WalkSpells
-- IMPORT Derived.StillTailTactics
-- IMPORT Derived.BigQuiet
open Go.Proofs.Ytbeigbkkecboiaa.Base
open Go.Proofs.Ytbeigbkkecboiaa.Sha
/-! ### spec_MixRound: function 16 -/
def m32S (x : Int) : Nat := (x % 4294967296).toNat
theorem m32S_cast (x : Int) : ((m32S x : Nat) : Int) = x % 4294967296 := by unfold m32S; omega
theorem m32S_lt (x : Int) : m32S x < 4294967296 := by unfold m32S; omega
theorem m32S_small (l : List Int) : small (l.map m32S) := by
  intro x hx
  obtain ⟨y, _, rfl⟩ := List.mem_map.1 hx
  exact m32S_lt y
theorem l2Mod_eq {x : Int} (h0 : -9223372036854775808 ≤ x) (h1 : x ≤ 9223372036854775807) : spec_l2Mod.f x = some ((m32S x : Nat) : Int) := by
  rw [m32S_cast]
  unfold spec_l2Mod.f
  congr 1
  rcases Int.le_total 0 x with hx | hx
  · rw [Int.tmod_eq_emod_of_nonneg hx, w64 (by omega) (by omega), Int.tmod_eq_emod_of_nonneg (by omega)]
    omega
  · obtain ⟨y, hy, rfl⟩ : ∃ y : Int, 0 ≤ y ∧ x = -y := ⟨-x, by omega, by omega⟩
    rw [Int.neg_tmod, Int.tmod_eq_emod_of_nonneg hy, w64 (by omega) (by omega), Int.tmod_eq_emod_of_nonneg (by omega)]
    omega
theorem l2Mod_still (x : Int) (h0 : -9223372036854775808 ≤ x) (h1 : x ≤ 9223372036854775807) (w : World) : Calls Try.prog 58 #[.int .i64 x] w fun e w' => e = .returned (.int .i64 ((m32S x : Nat) : Int)) ∧ w' = w := by
  have h := l2Mod_eq h0 h1
  unfold spec_l2Mod.f at h
  have e := Option.some.inj h
  go_enter Try.func58, Try.ntmps58
  go_wp2
  go_ret
  exact ⟨rfl, rfl⟩
def mixSV (l : List Int) (a b : Int) : List Int := (mixN (l.map m32S) (m32S a) (m32S b)).map fun n : Nat => (n : Int)
def spec_MixRound.ok (l0 : List Int) (a1 a2 : Int) : Bool := l0.all (fun x => decide (-9223372036854775808 ≤ x ∧ x ≤ 9223372036854775807)) && decide (-9223372036854775808 ≤ a1 ∧ a1 ≤ 9223372036854775807) && decide (-9223372036854775808 ≤ a2 ∧ a2 ≤ 9223372036854775807)
def spec_MixRound.f (l0 : List Int) (a1 a2 : Int) : Option (List Int) := if spec_MixRound.ok l0 a1 a2 = true then (if l0.length = 8 then some (mixSV l0 a1 a2) else some []) else none
theorem takeS_map_step (l : List Int) (i : Nat) (h : i < l.length) : (l.map m32S).take (i + 1) = (l.map m32S).take i ++ [m32S (rd l (i : Int))] := by
  rw [List.take_succ_eq_append_getElem (by simpa using h), List.getElem_map, rd_nat l i h]
theorem C_row {w : World} {g : Nat} {s : List Nat} {n : Nat} {t : TypeId} (h : w.heap[g]? = some (.cells (i64s s) t (0, 0))) (hn : s.length = n) (hl : n ≤ 9223372036854775807) : (Kd.int .i64).C w (some ⟨g, 0, none⟩) n (s.map fun n : Nat => (n : Int)) := by
  refine ⟨by simp [hn], hl, fun hp => ⟨⟨g, 0, none⟩, rfl, fun j p hj => ⟨[.int .i64 p], rfl, rfl, fun i u hu => ?_⟩⟩⟩
  cases i with
  | zero =>
    have e1 : (.int .i64 p : Value) = u := by simpa using hu
    have e2 : (⟨g, 0, none⟩ : Addr).add (j * 1 + 0) = ⟨g, j, none⟩ := by unfold Addr.add; split <;> simp_all
    show World.cell? _ ((⟨g, 0, none⟩ : Addr).add (j * 1 + 0)) = some u
    rw [e2, blk_cell h j, ← e1]
    have hjl := (List.getElem?_eq_some_iff.1 hj).1
    rw [List.getElem?_map] at hj
    rw [i64s_get s j (by simpa using hjl), List.getD_eq_getElem?_getD]
    cases hs : s[j]? with
    | none => rw [hs] at hj; cases hj
    | some x => rw [hs] at hj; simp at hj; simp [hj]
  | succ i => simp at hu
theorem load_row_run {P : Program} {o : Oper} {a : Act} (ty : TypeId) (x : Operand) (ho : o.op = .load ty x) (g : Nat) (hx : a.eval x = .pointer (some ⟨g, 0, none⟩)) {w : World} (t : TypeId) (cs : Array Value) (fr : Nat × Nat) (d : TypeDesc) (hg : w.heap[g]? = some (.cells cs t fr))
    (hu : P.underlying ty = some d) (hd : (match d with | .struct _ | .array _ _ => true | _ => false) = true) (hi : (P.info? ty).map (·.size) = some cs.size) : (execOp a.eval o).run P w = .ok (.value (.agg cs)) w := by
  unfold execOp
  simp only [ho, hx, Instr.loadAt, Instr.sureAddr, Sem.run_bind, Sem.run_pure, Result.andThen_ok, run_loadVar_row w g t ty cs fr d hg hu hd hi]
theorem box_step {P : Program} {ops : Array Oper} {Q : Exit → Act → World → Prop} {oi : Oper} {N : Option Tmp} {a : Act} {W : World} {K : Act → World → Prop} {cs : Array Value} {t : TypeId} (hw : Region.wanted oi (yielded ops a.tmps) = true) (hN : oi.dst = N)
    (hrun : (execOp a.eval oi).run P W = .ok (.value (.pointer (some ⟨W.heap.size, 0, none⟩))) (W.alloc (.cells cs t (0, 0))))
    (h : ∀ g, g = W.heap.size → ∀ w1, w1.heap[g]? = some (.cells cs t (0, 0)) → Below W.heap.size W w1 → K (a.put N (.pointer (some ⟨g, 0, none⟩))) w1) : if Region.wanted oi (yielded ops a.tmps) = true then Oper.wp P oi a W K Q else K (a.put N undef) W :=
  value_ hw hN hrun (h _ rfl _ (blk_new W _) (below_alloc (Below.refl _ _) _))
theorem row_step {P : Program} {ops : Array Oper} {Q : Exit → Act → World → Prop} {o : Oper} {a : Act} {w w0 : World} {B : Nat} {K : Act → World → Prop} (hw : Region.wanted o (yielded ops a.tmps) = true) (ty : TypeId) (x y : Operand) (ho : o.op = .store ty x y)
    (g : Nat) (cells : Array Value) (hx : a.eval x = .pointer (some ⟨g, 0, none⟩)) (hy : a.eval y = .agg cells)
    (t : TypeId) (old : Array Value) (hg : w.heap[g]? = some (.cells old t (0, 0))) (hi : (P.info? ty).map (·.size) = some cells.size)
    (hold : old.size = cells.size) (h1 : cells.all (·.oneCell') = true) (hd : o.dst = none) (hb : Below B w0 w) (hB : B ≤ g)
    (h : ∀ w1 : World, w1.heap[g]? = some (.cells cells t (0, 0)) → (∀ k, k ≠ g → w1.heap[k]? = w.heap[k]?) → Below B w0 w1 → K a w1) : if Region.wanted o (yielded ops a.tmps) = true then Oper.wp P o a w K Q else K (a.put none undef) w := by
  rw [if_pos hw]
  refine wp_store_row ty x y ho g cells hx hy t old hg hi hold h1 ?_
  rw [hd]
  exact h _ (setRow_heap w g old cells t (0, 0) hg) (fun k hk => setRow_other w g k cells hk) (below_setRow hb hB cells)
set_option maxHeartbeats 8000000 in
set_option maxRecDepth 100000 in
theorem spec_MixRound.calls (A0 : Option Addr) (c0 : Nat) (l0 : List Int) (a1 a2 : Int) (r : List Int) (w : World) (hr0 : Kd.C (Kd.int .i64) w A0 l0.length l0) (hc0 : l0.length ≤ c0) (h : spec_MixRound.f l0 a1 a2 = some r) :
    Calls Try.prog 16 #[.slice A0 l0.length c0, .int .i64 a1, .int .i64 a2] w fun e w' => ∃ v0_ : Value, e = .returned (v0_) ∧ Kd.R (Kd.int .i64) 2 w' w.heap.size (fun _ => True) v0_ r ∧ Below w.heap.size w w' := by
  have HR0 := Aside0.mk hr0
  have HC0 := Aside0.mk hc0
  have HB := Aside0.mk (Below.refl w.heap.size w)
  have hu := Try.underlying60
  clear hr0 hc0
  unfold spec_MixRound.f at h
  by_cases hk : spec_MixRound.ok l0 a1 a2 = true
  · rw [if_pos hk] at h
    unfold spec_MixRound.ok at hk
    simp only [Bool.and_eq_true, decide_eq_true_eq, List.all_eq_true] at hk
    have HY := Aside0.mk hk.1.1
    have HA1 := Aside0.mk hk.1.2
    have HA2 := Aside0.mk hk.2
    clear hk
    by_cases hl : l0.length = 8
    · rw [if_pos hl] at h
      obtain rfl := Option.some.inj h
      clear h
      have HL := Aside0.mk hl
      have c2b0 : ((l0.length : Int) == 8) = true := beq_iff_eq.mpr (by omega)
      have c2b1 : ((l0.length : Int) != 8) = false := bne_eq_false_iff_eq.mpr (by omega)
      clear hl
      go_enter Try.func16, Try.ntmps16
      go_wp2_with (first | ((with_reducible refine gate_dst (N := 7) rfl ?_); refine box_event ?hg (N := 7) ?hd (cs := #[.int .i64 0, .int .i64 0, .int .i64 0, .int .i64 0, .int .i64 0, .int .i64 0, .int .i64 0, .int .i64 0]) (t := 60) ?hr ?_; (case hd => rfl); (case hg => rfl); (case hr => first | (go_simp; done) | (go_simp; rfl)); intro g7 hg w3 hbox hb; have n0_ := Aside0.mk (below_step HB.out hb); have n1_ := Aside0.mk hbox; have n2_ := Aside0.mk ((by rw [hg]; exact below_size HB.out) : w.heap.size ≤ g7); clear HB ; have HB := n0_; have B7 := n1_; have G7 := n2_; clear n0_ n1_ n2_  hb hbox hg) | ((with_reducible refine gate_store (t := 60) (p := 7) (v := .tmp 13) rfl ?_); refine stop_here ?_))
      refine stop_go ?_
      refine row_event rfl 60 (.tmp 7) (.tmp 13) rfl g7 (i64s (List.replicate 8 0)) rfl rfl 60 _ B7.out ?hi rfl (i64s_one _) rfl HB.out G7.out ?_
      case hi => kernel_rfl
      clear HB B7
      intro w4 b7 _ hb
      have HB := Aside0.mk hb
      have B7 := Aside0.mk (show w4.heap[g7]? = some (.cells (i64s ((l0.map m32S).take 0 ++ List.replicate (8 - 0) 0)) 60 (0, 0)) from b7)
      clear hb b7
      go_wp2
      go_loopg [8] 8 (fun kq v8 w' => ∃ i : Nat, v8 = .int .i64 (i : Int) ∧ Aside0 (i + kq = 8) ∧ Aside0 (w'.heap[g7]? = some (.cells (i64s ((l0.map m32S).take i ++ List.replicate (8 - i) 0)) 60 (0, 0))) ∧ Aside0 (Below w.heap.size w w'))
      case atStart => exact ⟨0, rfl, ⟨rfl⟩, B7, HB⟩
      case round =>
        clear B7 HB
        obtain ⟨i, rfl, HI, B7, HB⟩ := hrel
        cases gk with
        | zero =>
          have e := HI.out
          have hL := HL.out
          have c3b0 : decide ((i : Int) < 8) = false := decide_eq_false (by omega)
          obtain rfl : i = 8 := by omega
          rw [show (l0.map m32S).take 8 ++ List.replicate (8 - 8) 0 = l0.map m32S by rw [List.take_of_length_le (by simp; omega)]; exact List.append_nil _] at B7
          have HS := Aside0.mk (show (l0.map m32S).length = 8 by simp; omega)
          have HM := Aside0.mk (m32S_small l0)
          have HT := Aside0.mk (show (mixN (l0.map m32S) (m32S a1) (m32S a2)).length = 8 from mixN_length HS.out _ _)
          have HV := Aside0.mk (show mixSV l0 a1 a2 = (mixN (l0.map m32S) (m32S a1) (m32S a2)).map (fun n : Nat => (n : Int)) from rfl)
          clear e HI hL
          go_upto_region 8 with fail
          refine cwp_named ?_
          intro wz hz
          replace B7 := Aside0.mk (show wz.heap[g7]? = some (.cells (i64s (l0.map m32S)) 60 (0, 0)) by rw [← hz]; exact B7.out)
          have h_ := HB.out
          rw [hz] at h_
          have HBz := Aside0.mk h_
          clear h_ hz HB
          refine start_ (n := 8) (S := fun w' => w'.heap[g7]? = some (.cells (i64s (l0.map m32S)) 60 (0, 0)) ∧ Below w.heap.size w w') (ds := [7]) #[false, false, false, false, false, false, false, false] (by kernel_rfl) rfl rfl ⟨B7.out, below_drew1 HBz.out⟩ (fun hHeld => ?_)
          generalize wz.drew = wy at hHeld ⊢
          clear B7 HBz
          refine take_ (i := 0) (N := some 25) (v := ?_) (a' := ?_) #[true, false, false, false, false, false, false, false] rfl rfl (by kernel_rfl) (fun _ _ _ h => h) (Or.inl ⟨by rfl, ?_⟩) hHeld ?_ ?_
          rotate_left
          · rintro w' ⟨h_, _⟩
            refine load_row_run 60 (.tmp 7) ?a1 g7 ?a2 _ _ _ _ h_ Try.underlying60 ?a3 ?a4
            case a1 => rfl
            case a2 => rfl
            case a3 => rfl
            case a4 => rw [i64s_size, HS.out]; kernel_rfl
          rotate_left
          · simp only [Act.put, List.setIfInBounds_toArray, List.set_cons_zero, List.set_cons_succ]
            rfl
          refine pure_ (i := 1) (N := some 26) (v := ?_) (a' := ?_) #[true, true, false, false, false, false, false, false] rfl rfl (by kernel_rfl) (fun _ _ _ h => h) (Or.inl ⟨by rfl, ?_⟩) ?_ ?_
          rotate_left
          · intro w'
            go_simp
            with_reducible rfl
          rotate_left
          · simp only [Act.put, List.setIfInBounds_toArray, List.set_cons_zero, List.set_cons_succ]
            rfl
          refine pure_ (i := 3) (N := some 28) (v := ?_) (a' := ?_) #[true, true, false, true, false, false, false, false] rfl rfl (by kernel_rfl) (fun _ _ _ h => h) (Or.inl ⟨by rfl, ?_⟩) ?_ ?_
          rotate_left
          · intro w'
            go_simp
            with_reducible rfl
          rotate_left
          · simp only [Act.put, List.setIfInBounds_toArray, List.set_cons_zero, List.set_cons_succ]
            rfl
          refine join_ (σ := Nat) 1 #[true, true, true, true, true, true, true, false] (fun g => [(27, .int .i64 ((m32S a1 : Nat) : Int)), (29, .int .i64 ((m32S a2 : Nat) : Int)), (30, .agg (i64s (mixN (l0.map m32S) (m32S a1) (m32S a2)))), (9, .pointer (some ⟨g, 0, none⟩))]) (fun g w' => w'.heap[g]? = some (.cells #[.int .i64 0, .int .i64 0, .int .i64 0, .int .i64 0, .int .i64 0, .int .i64 0, .int .i64 0, .int .i64 0] 60 (0, 0)) ∧ w.heap.size ≤ g ∧ Below w.heap.size w w') ?_ ?_
          rotate_left
          · intro hCont
            refine two_ (i := 2) (j := 6) (Ni := some 27) (Nj := some 9) #[true, true, true, true, false, false, false, false] #[true, true, false, true, false, false, true, false] rfl rfl rfl rfl (by kernel_rfl) (by decide) (by decide) (fun K hK => ?_) (fun K hK => ?_)
            · skip
              refine goes_ Try.func58 (by kernel_rfl) rfl #[.int .i64 a1] (by rfl) rfl rfl (by (try simp only [List.map_toArray, List.map_cons, List.map_nil]); first | done | rfl) ?_
              refine (l2Mod_still _ HA1.out.1 HA1.out.2 _).mono ?_
              rintro e wq_ ⟨rfl, rfl⟩
              refine ⟨_, rfl, ?_⟩
              refine hK.out _ _ hHeld (fun hHeld2 => ?_)
              clear hK K
              refine norm_ (a' := ?_) ?_ ?_
              rotate_left
              · show Act.put _ (some 27) _ = _
                simp only [Act.put, List.setIfInBounds_toArray, List.set_cons_zero, List.set_cons_succ]
                rfl
              clear hHeld
              have hHeld := hHeld2
              clear hHeld2
              refine two_ (i := 4) (j := 6) (Ni := some 29) (Nj := some 9) #[true, true, true, true, true, false, false, false] #[true, true, true, true, false, false, true, false] rfl rfl rfl rfl (by kernel_rfl) (by decide) (by decide) (fun K hK => ?_) (fun K hK => ?_)
              · skip
                refine goes_ Try.func58 (by kernel_rfl) rfl #[.int .i64 a2] (by rfl) rfl rfl (by (try simp only [List.map_toArray, List.map_cons, List.map_nil]); first | done | rfl) ?_
                refine (l2Mod_still _ HA2.out.1 HA2.out.2 _).mono ?_
                rintro e wq_ ⟨rfl, rfl⟩
                refine ⟨_, rfl, ?_⟩
                refine hK.out _ _ hHeld (fun hHeld2 => ?_)
                clear hK K
                refine norm_ (a' := ?_) ?_ ?_
                rotate_left
                · show Act.put _ (some 29) _ = _
                  simp only [Act.put, List.setIfInBounds_toArray, List.set_cons_zero, List.set_cons_succ]
                  rfl
                clear hHeld
                have hHeld := hHeld2
                clear hHeld2
                refine two_ (i := 5) (j := 6) (Ni := some 30) (Nj := some 9) #[true, true, true, true, true, true, false, false] #[true, true, true, true, true, false, true, false] rfl rfl rfl rfl (by kernel_rfl) (by decide) (by decide) (fun K hK => ?_) (fun K hK => ?_)
                · skip
                  refine goes_ Try.func59 (by kernel_rfl) rfl #[.agg (i64s (l0.map m32S)), .int .i64 ((m32S a1 : Nat) : Int), .int .i64 ((m32S a2 : Nat) : Int)] (by rfl) rfl rfl (by (try simp only [List.map_toArray, List.map_cons, List.map_nil]); first | done | rfl) ?_
                  refine (spec_l2Round.calls _ HS.out HM.out _ _ (m32S_lt _) (m32S_lt _) _).mono ?_
                  rintro e wq_ ⟨rfl, hb⟩
                  refine ⟨_, rfl, ?_⟩
                  refine hK.out _ _ ⟨blk_below hHeld.1 hb, below_step hHeld.2 hb⟩ (fun hHeld2 => ?_)
                  clear hK K
                  refine norm_ (a' := ?_) ?_ ?_
                  rotate_left
                  · show Act.put _ (some 30) _ = _
                    simp only [Act.put, List.setIfInBounds_toArray, List.set_cons_zero, List.set_cons_succ]
                    rfl
                  clear hHeld
                  have hHeld := hHeld2
                  clear hHeld2
                  refine one_ (i := 6) (N := some 9) #[true, true, true, true, true, true, true, false] rfl rfl (by kernel_rfl) (by decide) (fun K hK => ?_)
                  refine box_step (cs := #[.int .i64 0, .int .i64 0, .int .i64 0, .int .i64 0, .int .i64 0, .int .i64 0, .int .i64 0, .int .i64 0]) (t := 60) (by rfl) rfl ?hr ?_
                  case hr => first | (go_simp; done) | (go_simp; rfl)
                  intro g9_ hg_ wa_ hz_ hb_
                  have HG := Aside0.mk hz_
                  have HGL := Aside0.mk (show w.heap.size ≤ g9_ by rw [hg_]; exact below_size hHeld.2)
                  refine hK.out _ _ ⟨blk_below hHeld.1 hb_, below_step hHeld.2 hb_⟩ (fun hHeld2 => ?_)
                  clear hK K hz_ hb_ hg_
                  refine norm_ (a' := ?_) ?_ ?_
                  rotate_left
                  · show Act.put _ (some 9) _ = _
                    simp only [Act.put, List.setIfInBounds_toArray, List.set_cons_zero, List.set_cons_succ]
                    rfl
                  clear hHeld
                  have hHeld := hHeld2
                  clear hHeld2
                  exact norm_ (by first | (simp only [putAll, Act.put, List.setIfInBounds_toArray, List.set_cons_zero, List.set_cons_succ]; done) | (simp only [putAll, Act.put, List.setIfInBounds_toArray, List.set_cons_zero, List.set_cons_succ]; rfl)) (hCont g9_ _ ⟨HG.out, HGL.out, hHeld.2⟩)
                · skip
                  refine box_step (cs := #[.int .i64 0, .int .i64 0, .int .i64 0, .int .i64 0, .int .i64 0, .int .i64 0, .int .i64 0, .int .i64 0]) (t := 60) (by rfl) rfl ?hr ?_
                  case hr => first | (go_simp; done) | (go_simp; rfl)
                  intro g9_ hg_ wa_ hz_ hb_
                  have HG := Aside0.mk hz_
                  have HGL := Aside0.mk (show w.heap.size ≤ g9_ by rw [hg_]; exact below_size hHeld.2)
                  refine hK.out _ _ ⟨blk_below hHeld.1 hb_, below_step hHeld.2 hb_⟩ (fun hHeld2 => ?_)
                  clear hK K hz_ hb_ hg_
                  refine norm_ (a' := ?_) ?_ ?_
                  rotate_left
                  · show Act.put _ (some 9) _ = _
                    simp only [Act.put, List.setIfInBounds_toArray, List.set_cons_zero, List.set_cons_succ]
                    rfl
                  clear hHeld
                  have hHeld := hHeld2
                  clear hHeld2
                  refine one_ (i := 5) (N := some 30) #[true, true, true, true, true, true, true, false] rfl rfl (by kernel_rfl) (by decide) (fun K hK => ?_)
                  refine goes_ Try.func59 (by kernel_rfl) rfl #[.agg (i64s (l0.map m32S)), .int .i64 ((m32S a1 : Nat) : Int), .int .i64 ((m32S a2 : Nat) : Int)] (by rfl) rfl rfl (by (try simp only [List.map_toArray, List.map_cons, List.map_nil]); first | done | rfl) ?_
                  refine (spec_l2Round.calls _ HS.out HM.out _ _ (m32S_lt _) (m32S_lt _) _).mono ?_
                  rintro e wq_ ⟨rfl, hb⟩
                  refine ⟨_, rfl, ?_⟩
                  refine hK.out _ _ ⟨blk_below hHeld.1 hb, below_step hHeld.2 hb⟩ (fun hHeld2 => ?_)
                  clear hK K
                  have HG2 := Aside0.mk (blk_below HG.out hb)
                  clear HG
                  have HG := HG2
                  clear HG2
                  refine norm_ (a' := ?_) ?_ ?_
                  rotate_left
                  · show Act.put _ (some 30) _ = _
                    simp only [Act.put, List.setIfInBounds_toArray, List.set_cons_zero, List.set_cons_succ]
                    rfl
                  clear hHeld
                  have hHeld := hHeld2
                  clear hHeld2
                  exact norm_ (by first | (simp only [putAll, Act.put, List.setIfInBounds_toArray, List.set_cons_zero, List.set_cons_succ]; done) | (simp only [putAll, Act.put, List.setIfInBounds_toArray, List.set_cons_zero, List.set_cons_succ]; rfl)) (hCont g9_ _ ⟨HG.out, HGL.out, hHeld.2⟩)
              · skip
                refine box_step (cs := #[.int .i64 0, .int .i64 0, .int .i64 0, .int .i64 0, .int .i64 0, .int .i64 0, .int .i64 0, .int .i64 0]) (t := 60) (by rfl) rfl ?hr ?_
                case hr => first | (go_simp; done) | (go_simp; rfl)
                intro g9_ hg_ wa_ hz_ hb_
                have HG := Aside0.mk hz_
                have HGL := Aside0.mk (show w.heap.size ≤ g9_ by rw [hg_]; exact below_size hHeld.2)
                refine hK.out _ _ ⟨blk_below hHeld.1 hb_, below_step hHeld.2 hb_⟩ (fun hHeld2 => ?_)
                clear hK K hz_ hb_ hg_
                refine norm_ (a' := ?_) ?_ ?_
                rotate_left
                · show Act.put _ (some 9) _ = _
                  simp only [Act.put, List.setIfInBounds_toArray, List.set_cons_zero, List.set_cons_succ]
                  rfl
                clear hHeld
                have hHeld := hHeld2
                clear hHeld2
                refine one_ (i := 4) (N := some 29) #[true, true, true, true, true, false, true, false] rfl rfl (by kernel_rfl) (by decide) (fun K hK => ?_)
                refine goes_ Try.func58 (by kernel_rfl) rfl #[.int .i64 a2] (by rfl) rfl rfl (by (try simp only [List.map_toArray, List.map_cons, List.map_nil]); first | done | rfl) ?_
                refine (l2Mod_still _ HA2.out.1 HA2.out.2 _).mono ?_
                rintro e wq_ ⟨rfl, rfl⟩
                refine ⟨_, rfl, ?_⟩
                refine hK.out _ _ hHeld (fun hHeld2 => ?_)
                clear hK K
                refine norm_ (a' := ?_) ?_ ?_
                rotate_left
                · show Act.put _ (some 29) _ = _
                  simp only [Act.put, List.setIfInBounds_toArray, List.set_cons_zero, List.set_cons_succ]
                  rfl
                clear hHeld
                have hHeld := hHeld2
                clear hHeld2
                refine one_ (i := 5) (N := some 30) #[true, true, true, true, true, true, true, false] rfl rfl (by kernel_rfl) (by decide) (fun K hK => ?_)
                refine goes_ Try.func59 (by kernel_rfl) rfl #[.agg (i64s (l0.map m32S)), .int .i64 ((m32S a1 : Nat) : Int), .int .i64 ((m32S a2 : Nat) : Int)] (by rfl) rfl rfl (by (try simp only [List.map_toArray, List.map_cons, List.map_nil]); first | done | rfl) ?_
                refine (spec_l2Round.calls _ HS.out HM.out _ _ (m32S_lt _) (m32S_lt _) _).mono ?_
                rintro e wq_ ⟨rfl, hb⟩
                refine ⟨_, rfl, ?_⟩
                refine hK.out _ _ ⟨blk_below hHeld.1 hb, below_step hHeld.2 hb⟩ (fun hHeld2 => ?_)
                clear hK K
                have HG2 := Aside0.mk (blk_below HG.out hb)
                clear HG
                have HG := HG2
                clear HG2
                refine norm_ (a' := ?_) ?_ ?_
                rotate_left
                · show Act.put _ (some 30) _ = _
                  simp only [Act.put, List.setIfInBounds_toArray, List.set_cons_zero, List.set_cons_succ]
                  rfl
                clear hHeld
                have hHeld := hHeld2
                clear hHeld2
                exact norm_ (by first | (simp only [putAll, Act.put, List.setIfInBounds_toArray, List.set_cons_zero, List.set_cons_succ]; done) | (simp only [putAll, Act.put, List.setIfInBounds_toArray, List.set_cons_zero, List.set_cons_succ]; rfl)) (hCont g9_ _ ⟨HG.out, HGL.out, hHeld.2⟩)
            · skip
              refine box_step (cs := #[.int .i64 0, .int .i64 0, .int .i64 0, .int .i64 0, .int .i64 0, .int .i64 0, .int .i64 0, .int .i64 0]) (t := 60) (by rfl) rfl ?hr ?_
              case hr => first | (go_simp; done) | (go_simp; rfl)
              intro g9_ hg_ wa_ hz_ hb_
              have HG := Aside0.mk hz_
              have HGL := Aside0.mk (show w.heap.size ≤ g9_ by rw [hg_]; exact below_size hHeld.2)
              refine hK.out _ _ ⟨blk_below hHeld.1 hb_, below_step hHeld.2 hb_⟩ (fun hHeld2 => ?_)
              clear hK K hz_ hb_ hg_
              refine norm_ (a' := ?_) ?_ ?_
              rotate_left
              · show Act.put _ (some 9) _ = _
                simp only [Act.put, List.setIfInBounds_toArray, List.set_cons_zero, List.set_cons_succ]
                rfl
              clear hHeld
              have hHeld := hHeld2
              clear hHeld2
              refine one_ (i := 2) (N := some 27) #[true, true, true, true, false, false, true, false] rfl rfl (by kernel_rfl) (by decide) (fun K hK => ?_)
              refine goes_ Try.func58 (by kernel_rfl) rfl #[.int .i64 a1] (by rfl) rfl rfl (by (try simp only [List.map_toArray, List.map_cons, List.map_nil]); first | done | rfl) ?_
              refine (l2Mod_still _ HA1.out.1 HA1.out.2 _).mono ?_
              rintro e wq_ ⟨rfl, rfl⟩
              refine ⟨_, rfl, ?_⟩
              refine hK.out _ _ hHeld (fun hHeld2 => ?_)
              clear hK K
              refine norm_ (a' := ?_) ?_ ?_
              rotate_left
              · show Act.put _ (some 27) _ = _
                simp only [Act.put, List.setIfInBounds_toArray, List.set_cons_zero, List.set_cons_succ]
                rfl
              clear hHeld
              have hHeld := hHeld2
              clear hHeld2
              refine one_ (i := 4) (N := some 29) #[true, true, true, true, true, false, true, false] rfl rfl (by kernel_rfl) (by decide) (fun K hK => ?_)
              refine goes_ Try.func58 (by kernel_rfl) rfl #[.int .i64 a2] (by rfl) rfl rfl (by (try simp only [List.map_toArray, List.map_cons, List.map_nil]); first | done | rfl) ?_
              refine (l2Mod_still _ HA2.out.1 HA2.out.2 _).mono ?_
              rintro e wq_ ⟨rfl, rfl⟩
              refine ⟨_, rfl, ?_⟩
              refine hK.out _ _ hHeld (fun hHeld2 => ?_)
              clear hK K
              refine norm_ (a' := ?_) ?_ ?_
              rotate_left
              · show Act.put _ (some 29) _ = _
                simp only [Act.put, List.setIfInBounds_toArray, List.set_cons_zero, List.set_cons_succ]
                rfl
              clear hHeld
              have hHeld := hHeld2
              clear hHeld2
              refine one_ (i := 5) (N := some 30) #[true, true, true, true, true, true, true, false] rfl rfl (by kernel_rfl) (by decide) (fun K hK => ?_)
              refine goes_ Try.func59 (by kernel_rfl) rfl #[.agg (i64s (l0.map m32S)), .int .i64 ((m32S a1 : Nat) : Int), .int .i64 ((m32S a2 : Nat) : Int)] (by rfl) rfl rfl (by (try simp only [List.map_toArray, List.map_cons, List.map_nil]); first | done | rfl) ?_
              refine (spec_l2Round.calls _ HS.out HM.out _ _ (m32S_lt _) (m32S_lt _) _).mono ?_
              rintro e wq_ ⟨rfl, hb⟩
              refine ⟨_, rfl, ?_⟩
              refine hK.out _ _ ⟨blk_below hHeld.1 hb, below_step hHeld.2 hb⟩ (fun hHeld2 => ?_)
              clear hK K
              have HG2 := Aside0.mk (blk_below HG.out hb)
              clear HG
              have HG := HG2
              clear HG2
              refine norm_ (a' := ?_) ?_ ?_
              rotate_left
              · show Act.put _ (some 30) _ = _
                simp only [Act.put, List.setIfInBounds_toArray, List.set_cons_zero, List.set_cons_succ]
                rfl
              clear hHeld
              have hHeld := hHeld2
              clear hHeld2
              exact norm_ (by first | (simp only [putAll, Act.put, List.setIfInBounds_toArray, List.set_cons_zero, List.set_cons_succ]; done) | (simp only [putAll, Act.put, List.setIfInBounds_toArray, List.set_cons_zero, List.set_cons_succ]; rfl)) (hCont g9_ _ ⟨HG.out, HGL.out, hHeld.2⟩)
          rintro g9 wz2 ⟨b9, hg9, hb9⟩
          refine norm_ (a' := ?_) ?_ ?_
          rotate_left
          · simp only [putAll, Act.put, List.setIfInBounds_toArray, List.set_cons_zero, List.set_cons_succ]
            rfl
          refine last_ (i := 7) (N := none) #[true, true, true, true, true, true, true, true] rfl rfl (by kernel_rfl) (by decide) (fun K hK => ?_)
          refine row_step (by rfl) 60 (.tmp 9) (.tmp 30) rfl g9 (i64s (mixN (l0.map m32S) (m32S a1) (m32S a2))) rfl rfl 60 _ b9 ?hi ?hold (i64s_one _) rfl hb9 hg9 ?_
          case hi => rw [i64s_size, HT.out]; kernel_rfl
          case hold => rw [i64s_size, HT.out]; rfl
          intro w8 b9 _ hb
          refine hK.out _ _ ?_
          clear hK K
          refine done_ (by kernel_rfl) ?_
          have HB := Aside0.mk hb
          have B9 := Aside0.mk b9
          clear hb b9 hb9 hg9
          generalize mixN (l0.map m32S) (m32S a1) (m32S a2) = t at *
          have LM := Aside0.mk (show (t.map (fun n : Nat => (n : Int))).length = 8 by rw [List.length_map, HT.out])
          go_wp2_with (first | ((with_reducible refine gate_dst (N := 31) rfl ?_); refine Kd.R_lit (Kd.int .i64) _ 2 ?hg (N := 31) ?hd (xs := ([] : List Int)) (inner := []) (ok := fun _ => True) (okp := fun _ => True) ?hr ?hp (fun _ hk => hk) trivial (Below.refl _ _) (Nat.le_refl _) (by simp) ?_; (case hd => rfl); (case hg => rfl); (case hr => first | (go_simp; done) | (go_simp; rfl)); (case hp => exact (Reps.none _ _)); intro v31 w10 ho_ hb hg_ hnew_; clear hg_ hnew_; have k0_ := Aside0.mk (blk_below B9.out hb); clear B9; have B9 := k0_; clear k0_; have n0_ := Aside0.mk (Kd.R_lower ho_ (below_size (by repeat (first | (with_reducible first | exact HB.out | apply below_alloc | apply pw_below_drewN | apply below_drew1) | exact HB.out)))); have n1_ := Aside0.mk (below_step (by repeat (first | (with_reducible first | exact HB.out | apply below_alloc | apply pw_below_drewN | apply below_drew1) | exact HB.out)) hb); clear HB; have HO := n0_; have HB := n1_; clear n0_ n1_ hb ho_) | ((with_reducible refine gate_builtin (b := .append) (xs := #[.tmp 31, .tmp 32]) rfl ?_); at_builtin; refine Kd.R_append_rows (Kd.int .i64) (w0 := w) w.heap.size rfl (.tmp 31) (.tmp 32) 22 2 (.int .i64 0) 8 rfl Try.underlying22 info2 rfl (by decide) (by omega) _ ([] : List Int) (t.map (fun n : Nat => (n : Int))) _ _ _ (fun _ => True) (fun _ => False) rfl rfl ?aO ?aR (fun _ _ h => h) (fun _ h => h.elim) ?aF ?aB ?aS ?aL ?_; (case aR => repeat (first | exact (C_row B9.out HT.out (by decide)) | (with_reducible refine Kd.C_alloc ?_ _) | (with_reducible refine Kd.C_drewN ?_ _) | (with_reducible refine Kd.C_drew ?_))); (case aB => exact (by repeat (first | (with_reducible first | exact HB.out | apply below_alloc | apply pw_below_drewN | apply below_drew1) | exact HB.out))); (case aF => exact (fun _ _ => trivial)); (case aO => exact (by (with_reducible repeat (first | apply Kd.R_alloc | apply Kd.R_drewN | apply Kd.R_drew)); exact HO.out)); (case aS => exact (below_size (by repeat (first | (with_reducible first | exact HB.out | apply below_alloc | apply pw_below_drewN | apply below_drew1) | exact HB.out)))); (case aL => have := LM.out; simp only [List.length_nil]; omega); intro v33 w12 ho_ hb hg hat; have n0_ := Aside0.mk hb; have n1_ := Aside0.mk ho_; clear HB HO; have HB := n0_; have HO := n1_; clear n0_ n1_ ho_ hb hg hat))
          go_ret
          exact ⟨_, rfl, by have h_ := HO.out; rw [List.nil_append, ← HV.out] at h_; exact h_, HB.out⟩
        | succ k1 =>
          have e := HI.out
          have hL := HL.out
          have c3b0 : decide ((i : Int) < 8) = true := decide_eq_true (by omega)
          have p262 : 0 ≤ (i : Int) := by omega
          have q262 : (i : Int) < (l0.length : Int) := by omega
          have c5b0 : ((i : Int) < 8) = True := eq_true (by omega)
          obtain ⟨ad, e262, hx⟩ := Kd.at_int HR0.out (i : Int) p262 q262
          cases e262
          rw [Int.toNat_natCast] at hx
          replace hx := (HB.out.cell (World.block_lt_of_cell? w _ hx)).trans hx
          replace p262 := eq_true p262
          replace q262 := eq_true q262
          have hcs : wr.cell? ⟨g7, i, none⟩ = some (.int .i64 (((((l0.map m32S).take i ++ List.replicate (8 - i) 0).getD i 0 : Nat)) : Int)) := (blk_cell B7.out i).trans (i64s_get _ i (by simp; omega))
          have hfz := blk_frozen B7.out i
          have hst := Aside0.mk (takeS_map_step l0 i (by omega))
          have hxr := Aside0.mk (HY.out (rd l0 (i : Int)) (by rw [rd_nat l0 i (by omega)]; exact List.getElem_mem _))
          generalize rd l0 (i : Int) = x at *
          clear e hL
          go_wp2_with (first | (go_at_call 58; refine (l2Mod_still _ hxr.out.1 hxr.out.2 _).mono ?_; rintro e w1_ ⟨rfl, rfl⟩) | ((with_reducible refine gate_store (t := 2) (p := 24) (v := .tmp 23) rfl ?_); refine stop_here ?_))
          refine stop_go ?_
          refine store_event (w1 := w1_.setCell ⟨g7, i, none⟩ (.int .i64 ((m32S x : Nat) : Int))) rfl rfl rfl ?hr ?_
          case hr => go_simp
          intro w8 hw8
          have B8 := Aside0.mk (blk_set B7.out i (.int .i64 ((m32S x : Nat) : Int)))
          rw [i64s_set, ← hw8, set_fill (by have := HL.out; have := HI.out; simp; omega) (by have := HI.out; omega), ← hst.out] at B8
          have HB8 := Aside0.mk (show Below w.heap.size w w8 by rw [hw8]; exact below_set HB.out G7.out)
          clear hw8 HB B7 hcs hfz hst hx
          go_wp2
          go_roundg k1
          case measure => have := HI.out; omega
          case rel => exact ⟨i + 1, by first | rfl | (rw [w64s (by have := HI.out; omega)]), ⟨by have := HI.out; omega⟩, B8, HB8⟩
    · rw [if_neg hl] at h
      obtain rfl := Option.some.inj h
      have c2b0 : ((l0.length : Int) == 8) = false := beq_eq_false_iff_ne.mpr (by omega)
      have c2b1 : ((l0.length : Int) != 8) = true := bne_iff_ne.mpr (by omega)
      clear h hl
      go_enter Try.func16, Try.ntmps16
      go_wp2
      go_ret
      exact ⟨_, rfl, Kd.R_nil _ _ _ _ _, HB.out⟩
  · rw [if_neg hk] at h
    cases h

end Go.Proofs.Ytbeigbkkecboiaa.S
