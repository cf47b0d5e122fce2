/- The walks over the reference's rounds, keys, message and digest: they come to the same plain function, for all bytes that fit. -/
import Derived.Test.YtchmaojmknfbpaaShaI
import Derived.Test.YtchmaojmknfbpaaSxSpecL2
import Derived.BigQuiet
import Derived.Test.YtchmaojmknfbpaaSx0
import Derived.WalkSpells
import Derived.Laws.Externs
import Derived.Test.YtchmaojmknfbpaaWKept
import Derived.Test.YtchmaojmknfbpaaSxSpecL1N
import Derived.StillTailTactics
/- Words of 32 bits held in numbers of 64: what the reference's operations on them come to. -/
set_option linter.unusedVariables false
namespace Go.Proofs.Ytchmaojmknfbpaa.S
open Go.RowKit Go.Proofs.YtchmaojmknfbpaaW.PrintWords Go.Proofs.YtchmaojmknfbpaaW.PrintLast Go.Proofs.YtchmaojmknfbpaaW.PrintMore Go.Proofs.Ytchmaojmknfbpaa.Base Go.Proofs.Ytchmaojmknfbpaa.Sha

theorem wrapS {n : Nat} (h : n < 9223372036854775808) : IntKind.i64.wrap (n : Int) = (n : Int) := wrap_s (Int.natCast_nonneg _) (by omega)
theorem xor64 {x y : Nat} (hx : x < 4294967296) (hy : y < 4294967296) : Go.bits .xor .i64 (x : Int) (y : Int) = ((x ^^^ y : Nat) : Int) := by
  have := xor_lt hx hy
  rw [bits_xor_eq .i64 (by simp [IntKind.bits]; omega) (by simp [IntKind.bits]; omega), wrapS (by omega)]
theorem and64 {x y : Nat} (hx : x < 4294967296) (hy : y < 4294967296) : Go.bits .and .i64 (x : Int) (y : Int) = ((x &&& y : Nat) : Int) := by
  have : x &&& y < 4294967296 := and_lt hy
  rw [bits_and_eq .i64 (by simp [IntKind.bits]; omega) (by simp [IntKind.bits]; omega), wrapS (by omega)]
theorem l2Not_eq {x : Nat} (hx : x < 4294967296) : spec_l2Not.f (x : Int) = some ((4294967295 - x : Nat) : Int) := by
  unfold spec_l2Not.f
  rw [w64 (by omega) (by omega)]
  congr 1
  omega
theorem l2Rot_eq {x : Nat} (hx : x < 4294967296) (n : Nat) (h0 : 1 ≤ n) (hn : n ≤ 31) : spec_l2Rot.f (x : Int) (n : Int) = some ((rotr n x : Nat) : Int) := by
  have hp : x * 2 ^ (32 - n) < 9223372036854775808 := by
    have h1 : 2 ^ (32 - n) ≤ 2 ^ 31 := Nat.pow_le_pow_right (by decide) (by omega)
    have h2 : x * 2 ^ (32 - n) ≤ 4294967295 * 2 ^ 31 := Nat.mul_le_mul (by omega) h1
    omega
  have hd : x / 2 ^ n ≤ x := Nat.div_le_self _ _
  unfold spec_l2Rot.f
  have e : IntKind.u64.wrap (32 - (n : Int)) = ((32 - n : Nat) : Int) := by
    rw [show (32 - (n : Int)) = ((32 - n : Nat) : Int) by omega]
    exact wrap_u rfl (by omega) (by simp [IntKind.bits]; omega)
  rw [e, if_pos (by omega), if_pos (by omega)]
  have e1 : shr .i64 (x : Int) (n : Int) = ((x / 2 ^ n : Nat) : Int) := by
    unfold shr
    rw [Int.toNat_natCast, Nat.min_eq_left (by simp [IntKind.bits]; omega)]
    simp
  have e2 : shl .i64 (x : Int) ((32 - n : Nat) : Int) = ((x * 2 ^ (32 - n) : Nat) : Int) := by
    unfold shl
    rw [Int.toNat_natCast, Nat.min_eq_left (by simp [IntKind.bits]; omega)]
    have e3 : ((x : Int) * 2 ^ (32 - n)) = ((x * 2 ^ (32 - n) : Nat) : Int) := by simp
    rw [e3, wrapS hp]
  rw [e1, e2, bits_or_i64 (by omega) hp]
  have e4 : ((x / 2 ^ n ||| x * 2 ^ (32 - n)) % 2 ^ 32 : Nat) = rotr n x := by
    rw [Nat.or_mod_two_pow, Nat.mod_eq_of_lt (show x / 2 ^ n < 2 ^ 32 by omega)]
    rfl
  rw [← e4]
  rfl
/-- An array of such words. -/
def i64s (s : List Nat) : Array Value := (s.map fun x : Nat => Value.int .i64 (x : Int)).toArray
theorem i64s_size (l : List Nat) : (i64s l).size = l.length := by simp [i64s]
theorem i64s_set (l : List Nat) (i v : Nat) : (i64s l).setIfInBounds i (.int .i64 (v : Int)) = i64s (l.set i v) := by
  apply Array.toList_inj.1
  simp [i64s, List.map_set]
theorem i64s_get (l : List Nat) (i : Nat) (h : i < l.length) : (i64s l)[i]? = some (.int .i64 ((l.getD i 0 : Nat) : Int)) := by
  simp [i64s, List.getD_eq_getElem?_getD, List.getElem?_eq_getElem h]
theorem i64s_one (l : List Nat) : (i64s l).all (·.oneCell') = true := by
  rw [Array.all_eq_true_iff_forall_mem]
  intro v hv
  simp [i64s] at hv
  obtain ⟨x, _, rfl⟩ := hv
  rfl
end Go.Proofs.Ytchmaojmknfbpaa.S

/- A round of a state: the walk over the reference's. -/
set_option linter.unusedVariables false
set_option linter.unusedSimpArgs false
namespace Go.Proofs.Ytchmaojmknfbpaa.S
open Go.RowKit Go.Proofs.YtchmaojmknfbpaaW.PrintWords Go.Proofs.YtchmaojmknfbpaaW.PrintLast Go.Proofs.YtchmaojmknfbpaaW.PrintMore Go.Proofs.Ytchmaojmknfbpaa.Base Go.Proofs.Ytchmaojmknfbpaa.Sha
attribute [local go_sem] max2_int min2_int max_two min_two max_three min_three max_four min_four

set_option maxHeartbeats 8000000 in
set_option maxRecDepth 100000 in
theorem spec_l2Round.lit (a b c d e f g h wd k x6 x11 x25 y2 y13 y22 ne : Int) (w : World)
   (e6 : spec_l2Rot.f e 6 = some x6) (e11 : spec_l2Rot.f e 11 = some x11) (e25 : spec_l2Rot.f e 25 = some x25) (en : spec_l2Not.f e = some ne)
   (a2 : spec_l2Rot.f a 2 = some y2) (a13 : spec_l2Rot.f a 13 = some y13) (a22 : spec_l2Rot.f a 22 = some y22) :
    Calls Try.prog 113 #[.agg #[.int .i64 a, .int .i64 b, .int .i64 c, .int .i64 d, .int .i64 e, .int .i64 f, .int .i64 g, .int .i64 h], .int .i64 wd, .int .i64 k] w fun r w' => r = .returned (.agg #[.int .i64 ((wrap64 ((wrap64 (wrap64 (wrap64 (wrap64 (h + Go.bits .xor .i64 (Go.bits .xor .i64 x6 x11) x25) + Go.bits .xor .i64 (Go.bits .and .i64 e f) (Go.bits .and .i64 ne g)) + k) + wd)).tmod 4294967296 + (wrap64 (Go.bits .xor .i64 (Go.bits .xor .i64 y2 y13) y22 + Go.bits .xor .i64 (Go.bits .xor .i64 (Go.bits .and .i64 a b) (Go.bits .and .i64 a c)) (Go.bits .and .i64 b c))).tmod 4294967296)).tmod 4294967296), .int .i64 a, .int .i64 b, .int .i64 c, .int .i64 ((wrap64 (d + (wrap64 (wrap64 (wrap64 (wrap64 (h + Go.bits .xor .i64 (Go.bits .xor .i64 x6 x11) x25) + Go.bits .xor .i64 (Go.bits .and .i64 e f) (Go.bits .and .i64 ne g)) + k) + wd)).tmod 4294967296)).tmod 4294967296), .int .i64 e, .int .i64 f, .int .i64 g]) ∧ Below w.heap.size w w' := by
  have HB := Aside0.mk (Below.refl w.heap.size w)
  have hu := Try.underlying115
  have E6 := Aside0.mk e6
  have E11 := Aside0.mk e11
  have E25 := Aside0.mk e25
  have EN := Aside0.mk en
  have A2 := Aside0.mk a2
  have A13 := Aside0.mk a13
  have A22 := Aside0.mk a22
  clear e6 e11 e25 a2 a13 a22 en
  go_enter Try.func113, Try.ntmps113
  go_upto_region 1 with (first | ((with_reducible refine gate_dst (N := 3) rfl ?_); refine box_event ?hg (N := 3) ?hd (cs := #[.int .i64 a, .int .i64 b, .int .i64 c, .int .i64 d, .int .i64 e, .int .i64 f, .int .i64 g, .int .i64 h]) (t := 115) ?hr ?_; (case hd => rfl); (case hg => rfl); (case hr => first | (go_simp; done) | (go_simp; rfl)); intro gb hg w3 hbox hb; have n0_ := Aside0.mk (below_step HB.out hb); have n1_ := Aside0.mk hbox; have n2_ := Aside0.mk ((by rw [hg]; exact below_size HB.out) : w.heap.size ≤ gb); clear HB ; have HB := n0_; have BK := n1_; have GE := n2_; clear n0_ n1_ n2_  hb hbox hg) | ((with_reducible refine gate_dst (N := 6) rfl ?_); refine box_event ?hg (N := 6) ?hd (cs := #[.int .i64 0, .int .i64 0, .int .i64 0, .int .i64 0, .int .i64 0, .int .i64 0, .int .i64 0, .int .i64 0]) (t := 115) ?hr ?_; (case hd => rfl); (case hg => rfl); (case hr => first | (go_simp; done) | (go_simp; rfl)); intro gr hg w4 hbox hb; have n0_ := Aside0.mk (below_step HB.out hb); have n1_ := Aside0.mk hbox; have n2_ := Aside0.mk ((by rw [hg]; exact below_size HB.out) : w.heap.size ≤ gr); have k0_ := Aside0.mk (blk_below BK.out hb); clear HB BK; have HB := n0_; have BR := n1_; have GR := n2_; have BK := k0_; clear n0_ n1_ n2_ k0_ hb hbox hg))
  have hc0 : w4.cell? ⟨gb, 0, none⟩ = some (.int .i64 a) := (blk_cell BK.out 0).trans rfl
  have hc1 : w4.cell? ⟨gb, 1, none⟩ = some (.int .i64 b) := (blk_cell BK.out 1).trans rfl
  have hc2 : w4.cell? ⟨gb, 2, none⟩ = some (.int .i64 c) := (blk_cell BK.out 2).trans rfl
  have hc3 : w4.cell? ⟨gb, 3, none⟩ = some (.int .i64 d) := (blk_cell BK.out 3).trans rfl
  have hc4 : w4.cell? ⟨gb, 4, none⟩ = some (.int .i64 e) := (blk_cell BK.out 4).trans rfl
  have hc5 : w4.cell? ⟨gb, 5, none⟩ = some (.int .i64 f) := (blk_cell BK.out 5).trans rfl
  have hc6 : w4.cell? ⟨gb, 6, none⟩ = some (.int .i64 g) := (blk_cell BK.out 6).trans rfl
  have hc7 : w4.cell? ⟨gb, 7, none⟩ = some (.int .i64 h) := (blk_cell BK.out 7).trans rfl
  go_upto_region 4 with (first | (go_at_call 112; (first | with_reducible refine (spec_l2Rot.calls _ _ _ _ E6.out).mono ?_ | with_reducible refine (spec_l2Rot.calls _ _ _ _ E11.out).mono ?_ | with_reducible refine (spec_l2Rot.calls _ _ _ _ E25.out).mono ?_); rintro e w' ⟨rfl, ⟨nd, rfl⟩⟩))
  go_quiet ((go_at_call 117; exact quiet_add (spec_l2Not.calls _ _ _ EN.out)))
  go_wp2_with (first | (go_at_call 112; (first | with_reducible refine (spec_l2Rot.calls _ _ _ _ A2.out).mono ?_ | with_reducible refine (spec_l2Rot.calls _ _ _ _ A13.out).mono ?_ | with_reducible refine (spec_l2Rot.calls _ _ _ _ A22.out).mono ?_); rintro e w' ⟨rfl, ⟨nd, rfl⟩⟩) | ((with_reducible refine gate_store (t := 115) (p := 6) (v := .tmp 94) rfl ?_); refine stop_here ?_))
  refine stop_go ?_
  refine row_event rfl 115 (.tmp 6) (.tmp 94) rfl gr _ rfl rfl 115 _ BR.out ?hi rfl ?h1 rfl (by repeat (first | (with_reducible first | exact HB.out | apply below_alloc | apply pw_below_drewN | apply below_drew1) | exact HB.out)) GR.out ?_
  case hi => kernel_rfl
  case h1 => simp [Value.oneCell']
  clear HB BR
  intro w5 br_ _ hb_
  have HB := Aside0.mk hb_
  have BR := Aside0.mk br_
  clear hb_ br_
  go_wp2
  refine bodyPost_ret (results_cell_row rfl _ _ gr 115 _ (0, 0) _ rfl BR.out Try.underlying115 rfl (by kernel_rfl)) rfl ?_
  exact ⟨rfl, HB.out⟩

theorem tmod_nat (n : Nat) : ((n : Int)).tmod 4294967296 = ((n % 4294967296 : Nat) : Int) := by
  rw [Int.tmod_eq_emod_of_nonneg (Int.natCast_nonneg _)]
  omega
theorem round_row {a b c d e f g h wd k : Nat} (ha : a < 4294967296) (hb : b < 4294967296) (hc : c < 4294967296) (hd : d < 4294967296) (he : e < 4294967296) (hf : f < 4294967296) (hg : g < 4294967296) (hh : h < 4294967296) (hw : wd < 4294967296) (hk : k < 4294967296) :
    (#[.int .i64 ((wrap64 ((wrap64 (wrap64 (wrap64 (wrap64 ((h : Int) + Go.bits .xor .i64 (Go.bits .xor .i64 (rotr 6 e : Nat) (rotr 11 e : Nat)) (rotr 25 e : Nat)) + Go.bits .xor .i64 (Go.bits .and .i64 e f) (Go.bits .and .i64 (4294967295 - e : Nat) g)) + k) + wd)).tmod 4294967296 + (wrap64 (Go.bits .xor .i64 (Go.bits .xor .i64 (rotr 2 a : Nat) (rotr 13 a : Nat)) (rotr 22 a : Nat) + Go.bits .xor .i64 (Go.bits .xor .i64 (Go.bits .and .i64 a b) (Go.bits .and .i64 a c)) (Go.bits .and .i64 b c))).tmod 4294967296)).tmod 4294967296), .int .i64 a, .int .i64 b, .int .i64 c, .int .i64 ((wrap64 ((d : Int) + (wrap64 (wrap64 (wrap64 (wrap64 ((h : Int) + Go.bits .xor .i64 (Go.bits .xor .i64 (rotr 6 e : Nat) (rotr 11 e : Nat)) (rotr 25 e : Nat)) + Go.bits .xor .i64 (Go.bits .and .i64 e f) (Go.bits .and .i64 (4294967295 - e : Nat) g)) + k) + wd)).tmod 4294967296)).tmod 4294967296), .int .i64 e, .int .i64 f, .int .i64 g] : Array Value) = i64s (mixN [a, b, c, d, e, f, g, h] wd k) := by
  rw [xor64 (rotr_lt _ he) (rotr_lt _ he), xor64 (xor_lt (rotr_lt _ he) (rotr_lt _ he)) (rotr_lt _ he), xor64 (rotr_lt _ ha) (rotr_lt _ ha), xor64 (xor_lt (rotr_lt _ ha) (rotr_lt _ ha)) (rotr_lt _ ha), and64 he hf, and64 (by omega) hg, xor64 (and_lt hf) (and_lt hg), and64 ha hb, and64 ha hc, and64 hb hc, xor64 (and_lt hb) (and_lt hc), xor64 (xor_lt (and_lt hb) (and_lt hc)) (and_lt hc)]
  have l1 : rotr 6 e ^^^ rotr 11 e ^^^ rotr 25 e < 4294967296 := big1_lt he
  have l2 : (e &&& f) ^^^ ((4294967295 - e) &&& g) < 4294967296 := choice_lt hf hg
  have l3 : rotr 2 a ^^^ rotr 13 a ^^^ rotr 22 a < 4294967296 := big0_lt ha
  have l4 : (a &&& b) ^^^ (a &&& c) ^^^ (b &&& c) < 4294967296 := most_lt hb hc
  show _ = (([(t1N e f g h wd k + t2N a b c) % 4294967296, a, b, c, (d + t1N e f g h wd k) % 4294967296, e, f, g] : List Nat).map fun x : Nat => Value.int .i64 (x : Int)).toArray
  have e1 : t1N e f g h wd k = (h + (rotr 6 e ^^^ rotr 11 e ^^^ rotr 25 e) + ((e &&& f) ^^^ ((4294967295 - e) &&& g)) + k + wd) % 4294967296 := rfl
  have e2 : t2N a b c = ((rotr 2 a ^^^ rotr 13 a ^^^ rotr 22 a) + ((a &&& b) ^^^ (a &&& c) ^^^ (b &&& c))) % 4294967296 := rfl
  generalize rotr 6 e ^^^ rotr 11 e ^^^ rotr 25 e = X at *
  generalize (e &&& f) ^^^ ((4294967295 - e) &&& g) = C at *
  generalize rotr 2 a ^^^ rotr 13 a ^^^ rotr 22 a = Y at *
  generalize (a &&& b) ^^^ (a &&& c) ^^^ (b &&& c) = Z at *
  rw [w64 (n := (h : Int) + (X : Int)) (by omega) (by omega), w64 (n := (h : Int) + (X : Int) + (C : Int)) (by omega) (by omega), w64 (n := (h : Int) + (X : Int) + (C : Int) + (k : Int)) (by omega) (by omega), w64 (n := (h : Int) + (X : Int) + (C : Int) + (k : Int) + (wd : Int)) (by omega) (by omega), w64 (n := (Y : Int) + (Z : Int)) (by omega) (by omega)]
  rw [show (h : Int) + (X : Int) + (C : Int) + (k : Int) + (wd : Int) = ((h + X + C + k + wd : Nat) : Int) by omega, show (Y : Int) + (Z : Int) = ((Y + Z : Nat) : Int) by omega, tmod_nat, tmod_nat, ← e1, ← e2]
  have l5 : t1N e f g h wd k < 4294967296 := t1N_lt _ _ _ _ _ _
  have l6 : t2N a b c < 4294967296 := t2N_lt _ _ _
  rw [w64 (n := ((t1N e f g h wd k : Nat) : Int) + ((t2N a b c : Nat) : Int)) (by omega) (by omega), w64 (n := (d : Int) + ((t1N e f g h wd k : Nat) : Int)) (by omega) (by omega)]
  rw [show ((t1N e f g h wd k : Nat) : Int) + ((t2N a b c : Nat) : Int) = ((t1N e f g h wd k + t2N a b c : Nat) : Int) by omega, show (d : Int) + ((t1N e f g h wd k : Nat) : Int) = ((d + t1N e f g h wd k : Nat) : Int) by omega, tmod_nat, tmod_nat]
  rfl
theorem spec_l2Round.calls (s : List Nat) (hs : s.length = 8) (hm : small s) (wd k : Nat) (hw : wd < 4294967296) (hk : k < 4294967296) (w : World) :
    Calls Try.prog 113 #[.agg (i64s s), .int .i64 (wd : Int), .int .i64 (k : Int)] w fun r w' => r = .returned (.agg (i64s (mixN s wd k))) ∧ Below w.heap.size w w' := by
  obtain ⟨a, b, c, d, e, f, g, h, rfl⟩ := eight hs
  have ha : a < 4294967296 := hm a (by simp)
  have hb' : b < 4294967296 := hm b (by simp)
  have hc : c < 4294967296 := hm c (by simp)
  have hd : d < 4294967296 := hm d (by simp)
  have he : e < 4294967296 := hm e (by simp)
  have hf : f < 4294967296 := hm f (by simp)
  have hg : g < 4294967296 := hm g (by simp)
  have hh : h < 4294967296 := hm h (by simp)
  refine (spec_l2Round.lit a b c d e f g h wd k (rotr 6 e) (rotr 11 e) (rotr 25 e) (rotr 2 a) (rotr 13 a) (rotr 22 a) (4294967295 - e : Nat) w (l2Rot_eq he 6 (by decide) (by decide)) (l2Rot_eq he 11 (by decide) (by decide)) (l2Rot_eq he 25 (by decide) (by decide)) (l2Not_eq he) (l2Rot_eq ha 2 (by decide) (by decide)) (l2Rot_eq ha 13 (by decide) (by decide)) (l2Rot_eq ha 22 (by decide) (by decide))).mono fun r w' h => ?_
  obtain ⟨rfl, hb⟩ := h
  exact ⟨by rw [round_row ha hb' hc hd he hf hg hh hw hk], hb⟩

end Go.Proofs.Ytchmaojmknfbpaa.S

/- The reference's keys and its first state. -/
set_option linter.unusedVariables false
set_option linter.unusedSimpArgs false
namespace Go.Proofs.Ytchmaojmknfbpaa.S
open Go.RowKit Go.Proofs.YtchmaojmknfbpaaW.PrintWords Go.Proofs.YtchmaojmknfbpaaW.PrintLast Go.Proofs.YtchmaojmknfbpaaW.PrintMore Go.Proofs.Ytchmaojmknfbpaa.Base Go.Proofs.Ytchmaojmknfbpaa.Sha
attribute [local go_sem] max2_int min2_int max_two min_two max_three min_three max_four min_four

set_option maxHeartbeats 8000000 in
set_option maxRecDepth 100000 in
theorem spec_l2Keys.calls (w : World) :
    Calls Try.prog 108 #[] w fun r w' => r = .returned (.agg (i64s keysN)) ∧ Below w.heap.size w w' := by
  have HB := Aside0.mk (Below.refl w.heap.size w)
  have hu := Try.underlying113
  go_enter Try.func108, Try.ntmps108
  go_wp2_with (first | ((with_reducible refine gate_dst (N := 0) rfl ?_); refine box_event ?hg (N := 0) ?hd (cs := #[.int .i64 0, .int .i64 0, .int .i64 0, .int .i64 0, .int .i64 0, .int .i64 0, .int .i64 0, .int .i64 0, .int .i64 0, .int .i64 0, .int .i64 0, .int .i64 0, .int .i64 0, .int .i64 0, .int .i64 0, .int .i64 0, .int .i64 0, .int .i64 0, .int .i64 0, .int .i64 0, .int .i64 0, .int .i64 0, .int .i64 0, .int .i64 0, .int .i64 0, .int .i64 0, .int .i64 0, .int .i64 0, .int .i64 0, .int .i64 0, .int .i64 0, .int .i64 0, .int .i64 0, .int .i64 0, .int .i64 0, .int .i64 0, .int .i64 0, .int .i64 0, .int .i64 0, .int .i64 0, .int .i64 0, .int .i64 0, .int .i64 0, .int .i64 0, .int .i64 0, .int .i64 0, .int .i64 0, .int .i64 0, .int .i64 0, .int .i64 0, .int .i64 0, .int .i64 0, .int .i64 0, .int .i64 0, .int .i64 0, .int .i64 0, .int .i64 0, .int .i64 0, .int .i64 0, .int .i64 0, .int .i64 0, .int .i64 0, .int .i64 0, .int .i64 0]) (t := 113) ?hr ?_; (case hd => rfl); (case hg => rfl); (case hr => first | (go_simp; done) | (go_simp; rfl)); intro gr hg w4 hbox hb; have n0_ := Aside0.mk (below_step HB.out hb); have n1_ := Aside0.mk hbox; have n2_ := Aside0.mk ((by rw [hg]; exact below_size HB.out) : w.heap.size ≤ gr); clear HB ; have HB := n0_; have BR := n1_; have GR := n2_; clear n0_ n1_ n2_  hb hbox hg) | ((with_reducible refine gate_store (t := 113) (p := 0) (v := .tmp 1) rfl ?_); refine stop_here ?_))
  refine stop_go ?_
  refine row_event rfl 113 (.tmp 0) (.tmp 1) rfl gr _ rfl rfl 113 _ BR.out ?hi rfl ?h1 rfl (by repeat (first | (with_reducible first | exact HB.out | apply below_alloc | apply pw_below_drewN | apply below_drew1) | exact HB.out)) GR.out ?_
  case hi => kernel_rfl
  case h1 => kernel_rfl
  clear HB BR
  intro w5 br_ _ hb_
  have HB := Aside0.mk hb_
  have BR := Aside0.mk br_
  clear hb_ br_
  go_wp2
  refine bodyPost_ret (results_cell_row rfl _ _ gr 113 _ (0, 0) _ rfl BR.out Try.underlying113 rfl (by kernel_rfl)) rfl ?_
  exact ⟨rfl, HB.out⟩

set_option maxHeartbeats 8000000 in
set_option maxRecDepth 100000 in
theorem spec_l2Start.calls (w : World) :
    Calls Try.prog 109 #[] w fun r w' => r = .returned (.agg (i64s startN)) ∧ Below w.heap.size w w' := by
  have HB := Aside0.mk (Below.refl w.heap.size w)
  have hu := Try.underlying115
  go_enter Try.func109, Try.ntmps109
  go_wp2_with (first | ((with_reducible refine gate_dst (N := 0) rfl ?_); refine box_event ?hg (N := 0) ?hd (cs := #[.int .i64 0, .int .i64 0, .int .i64 0, .int .i64 0, .int .i64 0, .int .i64 0, .int .i64 0, .int .i64 0]) (t := 115) ?hr ?_; (case hd => rfl); (case hg => rfl); (case hr => first | (go_simp; done) | (go_simp; rfl)); intro gr hg w4 hbox hb; have n0_ := Aside0.mk (below_step HB.out hb); have n1_ := Aside0.mk hbox; have n2_ := Aside0.mk ((by rw [hg]; exact below_size HB.out) : w.heap.size ≤ gr); clear HB ; have HB := n0_; have BR := n1_; have GR := n2_; clear n0_ n1_ n2_  hb hbox hg) | ((with_reducible refine gate_store (t := 115) (p := 0) (v := .tmp 1) rfl ?_); refine stop_here ?_))
  refine stop_go ?_
  refine row_event rfl 115 (.tmp 0) (.tmp 1) rfl gr _ rfl rfl 115 _ BR.out ?hi rfl ?h1 rfl (by repeat (first | (with_reducible first | exact HB.out | apply below_alloc | apply pw_below_drewN | apply below_drew1) | exact HB.out)) GR.out ?_
  case hi => kernel_rfl
  case h1 => kernel_rfl
  clear HB BR
  intro w5 br_ _ hb_
  have HB := Aside0.mk hb_
  have BR := Aside0.mk br_
  clear hb_ br_
  go_wp2
  refine bodyPost_ret (results_cell_row rfl _ _ gr 115 _ (0, 0) _ rfl BR.out Try.underlying115 rfl (by kernel_rfl)) rfl ?_
  exact ⟨rfl, HB.out⟩


end Go.Proofs.Ytchmaojmknfbpaa.S

/- What stays beside a whole array's store, for walks that write arrays of their own beside a row that was made ahead. -/
set_option linter.unusedVariables false
namespace Go.Proofs.Ytchmaojmknfbpaa.Base
open Go Go.RowKit Go.Proofs.YtchmaojmknfbpaaW.PrintWords Go.Proofs.YtchmaojmknfbpaaW.PrintLast Go.Proofs.YtchmaojmknfbpaaW.PrintMore

theorem row_event2 {P : Program} {ops : Array Oper} {rest : List Oper} {o : Oper} {a : Act} {w w0 : World} {B : Nat} {Q : Exit → Act → World → Prop} (hgd : o.guard = none) (ty : TypeId) (x y : Operand) (ho : o.op = .store ty x y)
    (g : Nat) (cells : Array Value) (hx : a.eval x = .pointer (some ⟨g, 0, none⟩)) (hy : a.eval y = .agg cells)
    (t : TypeId) (old : Array Value) (hg : w.heap[g]? = some (.cells old t (0, 0))) (hi : (P.info? ty).map (·.size) = some cells.size)
    (hold : old.size = cells.size) (h1 : cells.all (·.oneCell') = true) (hd : o.dst = none) (hb : Below B w0 w) (hB : B ≤ g)
    (h : ∀ w1 : World, w1.heap[g]? = some (.cells cells t (0, 0)) → (∀ k, k ≠ g → w1.heap[k]? = w.heap[k]?) → w1.heap.size = w.heap.size → Below B w0 w1 → wpList P ops Q rest a w1) : wpList P ops Q (o :: rest) a w := by
  refine wpList_store_row hgd ty x y ho g cells hx hy t old hg hi hold h1 ?_
  rw [hd]
  exact h _ (setRow_heap w g old cells t (0, 0) hg) (fun k hk => setRow_other w g k cells hk) (by simp [World.setRow]) (below_setRow hb hB cells)
theorem wp_named {P : Program} {ops : Array Oper} {rest : List Oper} {a : Act} {W : World} {Q : Exit → Act → World → Prop} (h : ∀ wz, W = wz → wpList P ops Q rest a wz) : wpList P ops Q rest a W := h W rfl
theorem kept_row {w W W2 : World} {S : Nat → Prop} {g : Nat} (h : Kept w W S) (hs : W2.heap.size = W.heap.size) (ho : ∀ k, k ≠ g → W2.heap[k]? = W.heap[k]?) (hg : S g ∨ w.heap.size ≤ g) : Kept w W2 S :=
  ⟨by rw [hs]; exact h.1, fun i hi hn => (ho i (fun he => by
    subst he
    rcases hg with hg | hg
    · exact hn hg
    · omega)).trans (h.2 i hi hn)⟩
end Go.Proofs.Ytchmaojmknfbpaa.Base

/- The reference's message and its numbers of four bytes: what they come to. -/
set_option linter.unusedVariables false
namespace Go.Proofs.Ytchmaojmknfbpaa.S
open Go.RowKit Go.Proofs.YtchmaojmknfbpaaW.PrintWords Go.Proofs.YtchmaojmknfbpaaW.PrintLast Go.Proofs.YtchmaojmknfbpaaW.PrintMore Go.Proofs.Ytchmaojmknfbpaa.Base Go.Proofs.Ytchmaojmknfbpaa.Sha

theorem be8_step (n q : Nat) (hq : q < 8) : (be8 n).take (q + 1) = (be8 n).take q ++ [shr .i64 (n : Int) ((56 - 8 * q : Nat) : Int) % 256] := by
  have h : q = 0 ∨ q = 1 ∨ q = 2 ∨ q = 3 ∨ q = 4 ∨ q = 5 ∨ q = 6 ∨ q = 7 := by omega
  rcases h with rfl | rfl | rfl | rfl | rfl | rfl | rfl | rfl <;> simp [be8, shr, IntKind.bits]
theorem l2Message_l1 (x : List Int) (n : Nat) (hx : x.length < 140000000000000) : ∀ (d q : Nat), q + d = 8 → Ev (fun k => spec_l2Message.l1 k (x ++ (be8 n).take q) (n : Int) (7 - (q : Int))) (x ++ be8 n) := by
  intro d
  induction d with
  | zero =>
    intro q hq
    obtain rfl : q = 8 := by omega
    exact ev_step (fun k => spec_l2Message.l1.eq_2 _ _ _ _) (ev_neg (by omega) (ev_now rfl))
  | succ d ih =>
    intro q hq
    have e1 : IntKind.u64.wrap (wrap64 (8 * (7 - (q : Int)))) = ((56 - 8 * q : Nat) : Int) := by
      rw [w64 (by omega) (by omega), show 8 * (7 - (q : Int)) = ((56 - 8 * q : Nat) : Int) by omega]
      exact wrap_u rfl (by omega) (by simp [IntKind.bits]; omega)
    have e2 : wrap64 (7 - (q : Int) - 1) = 7 - ((q + 1 : Nat) : Int) := by rw [w64 (by omega) (by omega)]; omega
    refine ev_step (fun k => spec_l2Message.l1.eq_2 _ _ _ _) (ev_pos (by omega) ?_)
    rw [e1, e2]
    refine ev_pos (by omega) (ev_pos (by rw [List.length_append, List.length_take]; omega) ?_)
    rw [List.append_assoc, ← be8_step n q (by omega)]
    exact ih (q + 1) (by omega)
theorem l2Message_l0 (l : List Int) (hl : l.length < 70000000000000) : ∀ (d j : Nat), j + d = fillN l.length → Ev (fun k => spec_l2Message.l0 k l (l ++ [128] ++ List.replicate j 0)) (pad l) := by
  intro d
  induction d with
  | zero =>
    intro j hj
    have hlen : (l ++ [128] ++ List.replicate j (0 : Int)).length = l.length + 1 + j := by simp; omega
    refine ev_step (fun k => spec_l2Message.l0.eq_2 _ _ _) (ev_pos (by rw [hlen]; unfold fillN at hj; omega) ?_)
    have h := l2Message_l1 (l ++ [128] ++ List.replicate j (0 : Int)) (l.length * 8) (by rw [hlen]; unfold fillN at hj; omega) 8 0 rfl
    rw [List.take_zero, List.append_nil] at h
    rw [w64 (by omega) (by omega), show (l.length : Int) * 8 = ((l.length * 8 : Nat) : Int) by omega]
    have e : pad l = l ++ [128] ++ List.replicate j (0 : Int) ++ be8 (l.length * 8) := by rw [show j = fillN l.length by omega]; rfl
    rw [e]
    exact h
  | succ d ih =>
    intro j hj
    have hlen : (l ++ [128] ++ List.replicate j (0 : Int)).length = l.length + 1 + j := by simp; omega
    refine ev_step (fun k => spec_l2Message.l0.eq_2 _ _ _) (ev_neg (by rw [hlen]; unfold fillN at hj; omega) (ev_pos (by rw [hlen]; unfold fillN at hj; omega) ?_))
    have e : l ++ [128] ++ List.replicate j (0 : Int) ++ [0] = l ++ [128] ++ List.replicate (j + 1) (0 : Int) := by rw [List.replicate_succ', List.append_assoc (l ++ [128])]
    rw [e]
    exact ih (j + 1) (by omega)
theorem l2Message_ev (l : List Int) (hl : l.length < 70000000000000) : Ev (fun k => spec_l2Message.f k l) (pad l) := by
  unfold spec_l2Message.f
  refine ev_bind (a := []) (ev_now rfl) (ev_pos (by simp; omega) (ev_bind (a := l) (ev_now rfl) (ev_pos (by omega) ?_)))
  have h := l2Message_l0 l hl (fillN l.length) 0 (by omega)
  rw [List.replicate_zero, List.append_nil] at h
  exact h
theorem l1Number_four (x0 x1 x2 x3 : Int) (h0 : 0 ≤ x0 ∧ x0 ≤ 255) (h1 : 0 ≤ x1 ∧ x1 ≤ 255) (h2 : 0 ≤ x2 ∧ x2 ≤ 255) (h3 : 0 ≤ x3 ∧ x3 ≤ 255) : spec_l1Number.f 5 [x0, x1, x2, x3] = some (x0 * 16777216 + x1 * 65536 + x2 * 256 + x3) := by
  unfold spec_l1Number.f
  have r0 : rd [x0, x1, x2, x3] 0 = x0 := rfl
  have r1 : rd [x0, x1, x2, x3] 1 = x1 := rfl
  have r2 : rd [x0, x1, x2, x3] 2 = x2 := rfl
  have r3 : rd [x0, x1, x2, x3] 3 = x3 := rfl
  have w1 : wrap64 (0 + 1) = 1 := by decide +kernel
  have w2 : wrap64 (1 + 1) = 2 := by decide +kernel
  have w3 : wrap64 (2 + 1) = 3 := by decide +kernel
  have w4 : wrap64 (3 + 1) = 4 := by decide +kernel
  simp only [spec_l1Number.l0, List.length_cons, List.length_nil]
  rw [if_pos (by omega), if_pos (by omega), w1, r0, if_pos (by omega), if_pos (by omega), w2, r1, if_pos (by omega), if_pos (by omega), w3, r2, if_pos (by omega), if_pos (by omega), w4, r3, if_neg (by omega)]
  rw [w64 (n := x0) (by omega) (by omega), w64 (n := x1) (by omega) (by omega), w64 (n := x2) (by omega) (by omega), w64 (n := x3) (by omega) (by omega)]
  rw [w64 (n := 0 * 256) (by omega) (by omega), w64 (n := 0 * 256 + x0) (by omega) (by omega)]
  rw [w64 (n := (0 * 256 + x0) * 256) (by omega) (by omega), w64 (n := (0 * 256 + x0) * 256 + x1) (by omega) (by omega)]
  rw [w64 (n := ((0 * 256 + x0) * 256 + x1) * 256) (by omega) (by omega), w64 (n := ((0 * 256 + x0) * 256 + x1) * 256 + x2) (by omega) (by omega)]
  rw [w64 (n := (((0 * 256 + x0) * 256 + x1) * 256 + x2) * 256) (by omega) (by omega), w64 (n := (((0 * 256 + x0) * 256 + x1) * 256 + x2) * 256 + x3) (by omega) (by omega)]
  congr 1
  omega
theorem four_word {dd four : List Int} (hy : Byt dd) (hfl : four.length = 4) (i : Nat) (hi : 4 * i + 3 < dd.length) (h : ∀ j, j < 4 → four[j]? = dd[4 * i + j]?) : spec_l1Number.f 5 four = some ((word dd i : Nat) : Int) := by
  match four, hfl with
  | [x0, x1, x2, x3], _ =>
    have g : ∀ j, j < 4 → ∀ x, [x0, x1, x2, x3][j]? = some x → (0 ≤ x ∧ x ≤ 255) ∧ x = ((by8 dd (4 * i + j) : Nat) : Int) := by
      intro j hj x hx
      rw [h j hj] at hx
      have hb := hy x (List.mem_of_getElem? hx)
      refine ⟨hb, ?_⟩
      unfold by8
      rw [List.getD_eq_getElem?_getD, hx]
      simp
      omega
    obtain ⟨b0, e0⟩ := g 0 (by omega) x0 rfl
    obtain ⟨b1, e1⟩ := g 1 (by omega) x1 rfl
    obtain ⟨b2, e2⟩ := g 2 (by omega) x2 rfl
    obtain ⟨b3, e3⟩ := g 3 (by omega) x3 rfl
    rw [l1Number_four x0 x1 x2 x3 b0 b1 b2 b3, e0, e1, e2, e3]
    congr 1
end Go.Proofs.Ytchmaojmknfbpaa.S

/- The digest: the walk over the reference's. -/
set_option linter.unusedVariables false
set_option linter.unusedSimpArgs false
namespace Go.Proofs.Ytchmaojmknfbpaa.S
open Go.RowKit Go.Proofs.YtchmaojmknfbpaaW.PrintWords Go.Proofs.YtchmaojmknfbpaaW.PrintLast Go.Proofs.YtchmaojmknfbpaaW.PrintMore Go.Proofs.Ytchmaojmknfbpaa.Base Go.Proofs.Ytchmaojmknfbpaa.Sha
attribute [local go_sem] max2_int min2_int max_two min_two max_three min_three max_four min_four

theorem sml0_eqS {x : Nat} (h : x < 4294967296) : Go.bits .xor .i64 (Go.bits .xor .i64 ((rotr 7 x : Nat) : Int) ((rotr 18 x : Nat) : Int)) ((x : Int) / 8) = ((sml0 x : Nat) : Int) := by
  rw [show (x : Int) / 8 = ((x / 8 : Nat) : Int) by omega, xor64 (rotr_lt _ h) (rotr_lt _ h), xor64 (xor_lt (rotr_lt _ h) (rotr_lt _ h)) (by omega)]
  rfl
theorem sml1_eqS {x : Nat} (h : x < 4294967296) : Go.bits .xor .i64 (Go.bits .xor .i64 ((rotr 17 x : Nat) : Int) ((rotr 19 x : Nat) : Int)) ((x : Int) / 1024) = ((sml1 x : Nat) : Int) := by
  rw [show (x : Int) / 1024 = ((x / 1024 : Nat) : Int) by omega, xor64 (rotr_lt _ h) (rotr_lt _ h), xor64 (xor_lt (rotr_lt _ h) (rotr_lt _ h)) (by omega)]
  rfl
theorem next_eqS (l : List Nat) (i x2 x7 x15 x16 : Nat) (h2 : x2 < 4294967296) (h7 : x7 < 4294967296) (h15 : x15 < 4294967296) (h16 : x16 < 4294967296) (h : nextW l i = (sml1 x2 + x7 + sml0 x15 + x16) % 4294967296) : Int.tmod (IntKind.i64.wrap (IntKind.i64.wrap (IntKind.i64.wrap (((sml1 x2 : Nat) : Int) + (x7 : Int)) + ((sml0 x15 : Nat) : Int)) + (x16 : Int))) 4294967296 = ((nextW l i : Nat) : Int) := by
  have a := sml1_lt h2
  have b := sml0_lt h15
  rw [i64_w, i64_w, i64_w, w64 (n := ((sml1 x2 : Nat) : Int) + (x7 : Int)) (by omega) (by omega), w64 (n := ((sml1 x2 : Nat) : Int) + (x7 : Int) + ((sml0 x15 : Nat) : Int)) (by omega) (by omega), w64 (by omega) (by omega), h, ← tmod_nat]
  congr 1
def spec_Digest.ok (l : List Int) : Bool := l.all (fun x => decide (0 ≤ x ∧ x ≤ 255)) && decide (l.length < 70000000000000)
def spec_Digest.f (l : List Int) : Option (List Int) := if spec_Digest.ok l = true then some (sha l) else none
structure DigS (w0 wm : World) (S : Nat → Prop) (w : World) (g3 g4 : Nat) (s : List Nat) : Prop where
  ks : w.heap[g3]? = some (.cells (i64s keysN) 113 (0, 0))
  st : w.heap[g4]? = some (.cells (i64s s) 115 (0, 0))
  bl : Below w0.heap.size w0 w
  kp : Kept wm w S
theorem DigS.below {w0 wm w w1 : World} {S : Nat → Prop} {g3 g4 : Nat} {s : List Nat} (h : DigS w0 wm S w g3 g4 s) (hb : Below w.heap.size w w1) : DigS w0 wm S w1 g3 g4 s :=
  ⟨blk_below h.ks hb, blk_below h.st hb, below_step h.bl hb, h.kp.below hb⟩
theorem DigS.other {w0 wm w w1 : World} {S : Nat → Prop} {g3 g4 g : Nat} {s : List Nat} (h : DigS w0 wm S w g3 g4 s) (ho : ∀ k, k ≠ g → w1.heap[k]? = w.heap[k]?) (hs : w1.heap.size = w.heap.size) (hb : Below w0.heap.size w0 w1) (n3 : g3 ≠ g) (n4 : g4 ≠ g) (hg : S g ∨ wm.heap.size ≤ g) : DigS w0 wm S w1 g3 g4 s :=
  ⟨blk_other h.ks ho n3, blk_other h.st ho n4, hb, kept_row h.kp hs ho hg⟩
theorem DigS.put {w0 wm w : World} {S : Nat → Prop} {g3 g4 g : Nat} {s : List Nat} (h : DigS w0 wm S w g3 g4 s) (n3 : g3 ≠ g) (n4 : g4 ≠ g) (hg : S g ∨ wm.heap.size ≤ g) (h0 : w0.heap.size ≤ g) (i : Nat) (v : Value) : DigS w0 wm S (w.setCell ⟨g, i, none⟩ v) g3 g4 s :=
  ⟨blk_far h.ks n3 _, blk_far h.st n4 _, below_set h.bl h0, h.kp.setCell hg _⟩
theorem DigS.drewN {w0 wm w : World} {S : Nat → Prop} {g3 g4 : Nat} {s : List Nat} (h : DigS w0 wm S w g3 g4 s) (n : Nat) : DigS w0 wm S (w.drewN n) g3 g4 s := ⟨h.ks, h.st, pw_below_drewN h.bl _, h.kp.drewN n⟩
theorem DigS.drew {w0 wm w : World} {S : Nat → Prop} {g3 g4 : Nat} {s : List Nat} (h : DigS w0 wm S w g3 g4 s) : DigS w0 wm S w.drew g3 g4 s := ⟨h.ks, h.st, below_drew1 h.bl, h.kp.drew⟩
structure DigS7 (w0 wm : World) (S : Nat → Prop) (w : World) (g3 g4 g7 : Nat) (s ws : List Nat) : Prop where
  is : DigS w0 wm S w g3 g4 s
  wd : w.heap[g7]? = some (.cells (i64s ws) 113 (0, 0))
theorem DigS7.put {w0 wm w : World} {S : Nat → Prop} {g3 g4 g7 : Nat} {s ws : List Nat} (h : DigS7 w0 wm S w g3 g4 g7 s ws) (n3 : g3 ≠ g7) (n4 : g4 ≠ g7) (hg : S g7 ∨ wm.heap.size ≤ g7) (h0 : w0.heap.size ≤ g7) (i v : Nat) : DigS7 w0 wm S (w.setCell ⟨g7, i, none⟩ (.int .i64 (v : Int))) g3 g4 g7 s (ws.set i v) :=
  ⟨h.is.put n3 n4 hg h0 i _, by rw [blk_set h.wd i, i64s_set]⟩
theorem DigS7.drewN {w0 wm w : World} {S : Nat → Prop} {g3 g4 g7 : Nat} {s ws : List Nat} (h : DigS7 w0 wm S w g3 g4 g7 s ws) (n : Nat) : DigS7 w0 wm S (w.drewN n) g3 g4 g7 s ws := ⟨h.is.drewN n, h.wd⟩
theorem DigS7.drew {w0 wm w : World} {S : Nat → Prop} {g3 g4 g7 : Nat} {s ws : List Nat} (h : DigS7 w0 wm S w g3 g4 g7 s ws) : DigS7 w0 wm S w.drew g3 g4 g7 s ws := ⟨h.is.drew, h.wd⟩
theorem DigS7.below {w0 wm w w1 : World} {S : Nat → Prop} {g3 g4 g7 : Nat} {s ws : List Nat} (h : DigS7 w0 wm S w g3 g4 g7 s ws) (hb : Below w.heap.size w w1) : DigS7 w0 wm S w1 g3 g4 g7 s ws := ⟨h.is.below hb, blk_below h.wd hb⟩
theorem DigS7.cell {w0 wm w : World} {S : Nat → Prop} {g3 g4 g7 : Nat} {s ws : List Nat} (h : DigS7 w0 wm S w g3 g4 g7 s ws) (i : Nat) (hi : i < ws.length) : w.cell? ⟨g7, i, none⟩ = some (.int .i64 ((ws.getD i 0 : Nat) : Int)) := (blk_cell h.wd i).trans (i64s_get ws i hi)
theorem DigS7.other {w0 wm w w1 : World} {S : Nat → Prop} {g3 g4 g7 g : Nat} {s ws : List Nat} (h : DigS7 w0 wm S w g3 g4 g7 s ws) (ho : ∀ k, k ≠ g → w1.heap[k]? = w.heap[k]?) (hs : w1.heap.size = w.heap.size) (hb : Below w0.heap.size w0 w1) (n3 : g3 ≠ g) (n4 : g4 ≠ g) (n7 : g7 ≠ g) (hg : S g ∨ wm.heap.size ≤ g) : DigS7 w0 wm S w1 g3 g4 g7 s ws :=
  ⟨h.is.other ho hs hb n3 n4 hg, blk_other h.wd ho n7⟩
structure DigS14 (w0 wm : World) (S : Nat → Prop) (w : World) (g3 g4 g7 g14 : Nat) (s ws r : List Nat) : Prop where
  is : DigS7 w0 wm S w g3 g4 g7 s ws
  ou : w.heap[g14]? = some (.cells (i64s r) 115 (0, 0))
theorem DigS14.below {w0 wm w w1 : World} {S : Nat → Prop} {g3 g4 g7 g14 : Nat} {s ws r : List Nat} (h : DigS14 w0 wm S w g3 g4 g7 g14 s ws r) (hb : Below w.heap.size w w1) : DigS14 w0 wm S w1 g3 g4 g7 g14 s ws r := ⟨h.is.below hb, blk_below h.ou hb⟩
theorem DigS14.drew {w0 wm w : World} {S : Nat → Prop} {g3 g4 g7 g14 : Nat} {s ws r : List Nat} (h : DigS14 w0 wm S w g3 g4 g7 g14 s ws r) : DigS14 w0 wm S w.drew g3 g4 g7 g14 s ws r := ⟨h.is.drew, h.ou⟩
theorem DigS14.putst {w0 wm w : World} {S : Nat → Prop} {g3 g4 g7 g14 : Nat} {s ws r : List Nat} (h : DigS14 w0 wm S w g3 g4 g7 g14 s ws r) (n3 : g3 ≠ g4) (n7 : g7 ≠ g4) (n14 : g14 ≠ g4) (hg : S g4 ∨ wm.heap.size ≤ g4) (h0 : w0.heap.size ≤ g4) (i v : Nat) : DigS14 w0 wm S (w.setCell ⟨g4, i, none⟩ (.int .i64 (v : Int))) g3 g4 g7 g14 (s.set i v) ws r :=
  ⟨⟨⟨blk_far h.is.is.ks n3 _, by rw [blk_set h.is.is.st i, i64s_set], below_set h.is.is.bl h0, h.is.is.kp.setCell hg _⟩, blk_far h.is.wd n7 _⟩, blk_far h.ou n14 _⟩
theorem addS_comm (s t : List Nat) : addS s t = addS t s := by
  unfold addS
  rw [List.zipWith_comm]
  congr 1
  funext x y
  rw [Nat.add_comm]
theorem add_eqS {x y : Nat} (hx : x < 4294967296) (hy : y < 4294967296) : Int.tmod (IntKind.i64.wrap ((x : Int) + (y : Int))) 4294967296 = (((y + x) % 4294967296 : Nat) : Int) := by
  rw [i64_w, w64 (by omega) (by omega), ← tmod_nat, Nat.add_comm]
  congr 1
def fourN (x : Nat) : List Int := [(x : Int) / 16777216 % 256, (x : Int) / 65536 % 256, (x : Int) / 256 % 256, (x : Int) % 256]
set_option maxHeartbeats 80000000 in
set_option maxRecDepth 100000 in
theorem spec_Digest.calls (A0 : Option Addr) (c0 : Nat) (l0 : List Int) (r : List Int) (w : World) (hr0 : Kd.C (Kd.int .u8) w A0 l0.length l0) (hc0 : l0.length ≤ c0) (h : spec_Digest.f l0 = some r) :
    Calls Try.prog 103 #[.slice A0 l0.length c0] w fun e w' => ∃ v0_ : Value, e = .returned (v0_) ∧ Kd.R (Kd.int .u8) 5 w' w.heap.size (fun _ => True) v0_ r ∧ Below w.heap.size w w' := by
  have HR0 := Aside0.mk hr0
  have HC0 := Aside0.mk hc0
  clear hr0 hc0
  have HB := Aside0.mk (Below.refl w.heap.size w)
  unfold spec_Digest.f at h
  by_cases hk : spec_Digest.ok l0 = true
  · rw [if_pos hk] at h
    obtain rfl := Option.some.inj h
    clear h
    unfold spec_Digest.ok at hk
    rw [Bool.and_eq_true] at hk
    have HY := Aside0.mk (show Byt l0 from fun x hx => of_decide_eq_true (List.all_eq_true.1 hk.1 x hx))
    have HL := Aside0.mk (of_decide_eq_true hk.2)
    clear hk
    obtain ⟨km, hkm⟩ := (l2Message_ev l0 HL.out).rounds
    have HMk := Aside0.mk hkm
    clear hkm
    have hu := Try.underlying115
    have hu2 := Try.underlying113
    go_enter Try.func103, Try.ntmps103
    go_wp2_with (first | (go_at_call 108; refine (spec_l2Keys.calls _).mono ?_; rintro e wk ⟨rfl, hb⟩; have n1_ := Aside0.mk (below_step HB.out hb); clear HB hb; have HB := n1_; clear n1_) | ((with_reducible refine gate_dst (N := 3) rfl ?_); refine box_event ?hg (N := 3) ?hd (cs := #[.int .i64 0, .int .i64 0, .int .i64 0, .int .i64 0, .int .i64 0, .int .i64 0, .int .i64 0, .int .i64 0, .int .i64 0, .int .i64 0, .int .i64 0, .int .i64 0, .int .i64 0, .int .i64 0, .int .i64 0, .int .i64 0, .int .i64 0, .int .i64 0, .int .i64 0, .int .i64 0, .int .i64 0, .int .i64 0, .int .i64 0, .int .i64 0, .int .i64 0, .int .i64 0, .int .i64 0, .int .i64 0, .int .i64 0, .int .i64 0, .int .i64 0, .int .i64 0, .int .i64 0, .int .i64 0, .int .i64 0, .int .i64 0, .int .i64 0, .int .i64 0, .int .i64 0, .int .i64 0, .int .i64 0, .int .i64 0, .int .i64 0, .int .i64 0, .int .i64 0, .int .i64 0, .int .i64 0, .int .i64 0, .int .i64 0, .int .i64 0, .int .i64 0, .int .i64 0, .int .i64 0, .int .i64 0, .int .i64 0, .int .i64 0, .int .i64 0, .int .i64 0, .int .i64 0, .int .i64 0, .int .i64 0, .int .i64 0, .int .i64 0, .int .i64 0]) (t := 113) ?hr ?_; (case hd => rfl); (case hg => rfl); (case hr => first | (go_simp; done) | (go_simp; rfl)); intro g3 hg w3 hbox hb; have n0_ := Aside0.mk (below_step HB.out hb); have n1_ := Aside0.mk hbox; have n2_ := Aside0.mk ((by rw [hg]; exact below_size HB.out) : w.heap.size ≤ g3); clear HB ; have HB := n0_; have B3 := n1_; have G3 := n2_; clear n0_ n1_ n2_  hb hbox hg) | ((with_reducible refine gate_store (t := 113) (p := 3) (v := .tmp 20) rfl ?_); refine stop_here ?_))
    refine stop_go ?_
    refine row_event rfl 113 (.tmp 3) (.tmp 20) rfl g3 (i64s keysN) rfl rfl 113 _ B3.out ?hi rfl (i64s_one _) rfl HB.out G3.out ?_
    case hi => kernel_rfl
    clear HB B3
    intro w4 b3 _ hb
    have HB := Aside0.mk hb
    have B3 := Aside0.mk b3
    clear hb b3
    go_wp2_with (first | (go_at_call 109; refine (spec_l2Start.calls _).mono ?_; rintro e wk ⟨rfl, hb⟩; have n1_ := Aside0.mk (below_step HB.out hb); have n2_ := Aside0.mk (blk_below B3.out hb); clear HB B3 hb; have HB := n1_; have B3 := n2_; clear n1_ n2_) | ((with_reducible refine gate_dst (N := 4) rfl ?_); refine box_event ?hg (N := 4) ?hd (cs := #[.int .i64 0, .int .i64 0, .int .i64 0, .int .i64 0, .int .i64 0, .int .i64 0, .int .i64 0, .int .i64 0]) (t := 115) ?hr ?_; (case hd => rfl); (case hg => rfl); (case hr => first | (go_simp; done) | (go_simp; rfl)); intro g4 hg w5 hbox hb; have n0_ := Aside0.mk (below_step HB.out hb); have n1_ := Aside0.mk hbox; have n2_ := Aside0.mk ((by rw [hg]; exact below_size HB.out) : w.heap.size ≤ g4); have N34 := Aside0.mk (ne_of_lt_eq (blk_lt B3.out) hg); have k0_ := Aside0.mk (blk_below B3.out hb); clear HB B3; have HB := n0_; have B4 := n1_; have G4 := n2_; have B3 := k0_; clear n0_ n1_ n2_ k0_ hb hbox hg) | ((with_reducible refine gate_store (t := 115) (p := 4) (v := .tmp 21) rfl ?_); refine stop_here ?_))
    refine stop_go ?_
    refine row_event rfl 115 (.tmp 4) (.tmp 21) rfl g4 (i64s startN) rfl rfl 115 _ B4.out ?hi rfl (i64s_one _) rfl HB.out G4.out ?_
    case hi => kernel_rfl
    intro w6 b4 ho hb
    have n1_ := Aside0.mk hb
    have n2_ := Aside0.mk b4
    have n3_ := Aside0.mk (blk_other B3.out ho N34.out)
    clear HB B3 B4 hb b4 ho
    have HB := n1_
    have B4 := n2_
    have B3 := n3_
    clear n1_ n2_ n3_
    go_wp2_with (first | (go_at_call 110; refine (spec_l2Message.calls km A0 c0 l0 (pad l0) _ (Kd.C_below HR0.out HB.out) HC0.out HMk.out).mono ?_; rintro e wm ⟨v, rfl, ho, hb⟩; have HO := Aside0.mk ho; have HBm := Aside0.mk hb; clear ho hb))
    obtain ⟨A, c, ev⟩ := Kd.R_slice HO.out
    subst ev
    have HPM := Aside0.mk (pad_mod l0)
    have HPY := Aside0.mk (pad_byt HY.out)
    have HPS := Aside0.mk (show sha l0 = outN (hashN ((pad l0).length / 64) startN (pad l0)) from rfl)
    have HPL := Aside0.mk (show (pad l0).length < 80000000000000 by rw [pad_length]; have := HL.out; unfold fillN; omega)
    have HCc := Aside0.mk (Kd.R_reads' HO.out).2.1
    have HCk := Aside0.mk (Kd.C_kept_own (S := fun k => k < w6.heap.size ∨ wm.heap.size ≤ k) (Kd.R_bound HO.out) (fun k hk hs => by
      obtain ⟨_, h1, h2, _⟩ := hk
      rcases hs with h | h <;> omega))
    have L3 := Aside0.mk (blk_lt B3.out)
    have L4 := Aside0.mk (blk_lt B4.out)
    have N34 := Aside0.mk (blk_ne B3.out B4.out (by decide))
    have HV := Aside0.mk (DigS.mk (w0 := w) (wm := wm) (S := fun k => k < w6.heap.size ∨ wm.heap.size ≤ k) (blk_below B3.out HBm.out) (blk_below B4.out HBm.out) (below_step HB.out HBm.out) (Kept.refl _ _))
    generalize hm_ : pad l0 = m at *
    clear hm_ HO HB HBm B3 B4 HMk HR0 HC0 HY HL
    go_wp2
    go_loopg [6] (m.length / 64) (fun kq v6 w' => ∃ (p : Nat) (s : List Nat), v6 = .int .i64 (p : Int) ∧ Aside0 (p + 64 * kq = m.length) ∧ Aside0 (hashN kq s (m.drop p) = hashN (m.length / 64) startN m) ∧ Aside0 (s.length = 8 ∧ small s) ∧ Aside0 (DigS w wm (fun k => k < w6.heap.size ∨ wm.heap.size ≤ k) w' g3 g4 s))
    case atStart => exact ⟨0, startN, rfl, ⟨by have := HPM.out; omega⟩, ⟨rfl⟩, ⟨rfl, startN_small⟩, HV⟩
    case round =>
      clear HV
      obtain ⟨p, s, rfl, HJ, HH, HS, HV⟩ := hrel
      cases gk with
      | zero =>
        have e := HJ.out
        have c1_ : decide ((p : Int) < (m.length : Int)) = false := decide_eq_false (by omega)
        have c2_ : (p < m.length) = False := eq_false (by omega)
        have HF := Aside0.mk (show hashN (m.length / 64) startN m = s from HH.out.symm)
        have BS := Aside0.mk HV.out.st
        have HBw := Aside0.mk HV.out.bl
        clear HV HH e HJ
        rename World => wq
        have HB := Aside0.mk (Below.refl wq.heap.size wq)
        go_wp2_with (first | ((with_reducible refine gate_dst (N := 120) rfl ?_); refine Kd.R_lit (Kd.int .u8) _ 5 ?hg (N := 120) ?hd (xs := ([] : List Int)) (inner := []) (ok := fun _ => True) (okp := fun _ => True) ?hr ?hp (fun _ hk => hk) trivial (Below.refl _ _) (Nat.le_refl _) (by simp) ?_; (case hd => rfl); (case hg => rfl); (case hr => first | (go_simp; done) | (go_simp; rfl)); (case hp => exact (Reps.none _ _)); intro v120 w10 ho_ hb hg_ hnew_; clear hg_ hnew_; have n0_ := Aside0.mk (Kd.R_lower ho_ (below_size (by repeat (first | (with_reducible first | exact HB.out | apply below_alloc | apply pw_below_drewN | apply below_drew1) | exact HB.out)))); have n1_ := Aside0.mk (below_step (by repeat (first | (with_reducible first | exact HB.out | apply below_alloc | apply pw_below_drewN | apply below_drew1) | exact HB.out)) hb); clear HB; have HO := n0_; have HB := n1_; clear n0_ n1_ hb ho_))
        go_loopg [17, 18] 8 (fun kq v17 v18 w' => ∃ i : Nat, v18 = .int .i64 (i : Int) ∧ Aside0 (i + kq = 8) ∧ Aside0 (Kd.R (Kd.int .u8) 5 w' wq.heap.size (fun _ => True) v17 (outN (s.take i))) ∧ Aside0 (Below wq.heap.size wq w'))
        case atStart => exact ⟨0, rfl, ⟨rfl⟩, HO, HB⟩
        case round =>
          clear HO HB
          obtain ⟨i, rfl, HI, HO, HB⟩ := hrel
          cases gk with
          | zero =>
            have e := HI.out
            have c9_ : decide ((i : Int) < 8) = false := decide_eq_false (by omega)
            obtain rfl : i = 8 := by omega
            have HE := Aside0.mk (show outN (s.take 8) = sha l0 by rw [List.take_of_length_le (by rw [HS.out.1]; exact Nat.le_refl _), HPS.out, HF.out])
            rw [HE.out] at HO
            clear e HI
            go_wp2
            go_ret
            exact ⟨_, rfl, Kd.R_lower HO.out (below_size HBw.out), below_step HBw.out HB.out⟩
          | succ k1 =>
            have e := HI.out
            have c9_ : decide ((i : Int) < 8) = true := decide_eq_true (by omega)
            have hlt_ : ((i : Int) < 8) = True := eq_true (by omega)
            have hi0_ : (0 ≤ (i : Int)) = True := eq_true (by omega)
            have HST := Aside0.mk (show outN (s.take (i + 1)) = outN (s.take i) ++ fourN (s.getD i 0) from out_step s i (by rw [HS.out.1]; omega))
            have LM0 := Aside0.mk (show (outN (s.take i)).length + 8 < 140737488355328 by rw [outN_length, List.length_take]; omega)
            have HC4 := Aside0.mk ((blk_cell BS.out i).trans (i64s_get s i (by rw [HS.out.1]; omega)))
            have HLX := Aside0.mk (small_getD HS.out.2 i)
            generalize s.getD i 0 = x at *
            clear e
            go_wp2
            have HO1 := Aside0.mk (show Kd.R (Kd.int .u8) 5 wr wq.heap.size (fun _ => True) _ (outN (s.take i) ++ (fourN x).take 0) by rw [List.take_zero, List.append_nil]; exact HO.out)
            clear HO
            go_loopg [17, 19] 4 (fun kq v17 v19 w' => ∃ (q : Nat) (z : Int), v19 = .int .i64 z ∧ Aside0 (z = 3 - (q : Int)) ∧ Aside0 (q + kq = 4) ∧ Aside0 (Kd.R (Kd.int .u8) 5 w' wq.heap.size (fun _ => True) v17 (outN (s.take i) ++ (fourN x).take q)) ∧ Aside0 (Below wq.heap.size wq w'))
            case atStart => exact ⟨0, 3, rfl, ⟨by omega⟩, ⟨rfl⟩, HO1, HB⟩
            case round =>
              clear HO1 HB
              obtain ⟨q, z, rfl, HZ, HJ, HO, HB⟩ := hrel
              cases gk with
              | zero =>
                have e := HJ.out
                have ez := HZ.out
                have c10_ : decide (z ≥ 0) = false := decide_eq_false (by omega)
                have c11_ : (0 ≤ z) = False := eq_false (by omega)
                obtain rfl : q = 4 := by omega
                have h_ := HO.out
                rw [show (fourN x).take 4 = fourN x from rfl, ← HST.out] at h_
                have HO2 := Aside0.mk h_
                clear e ez HO h_
                go_wp2
                go_roundg k1
                case measure => have := HI.out; omega
                case rel => exact ⟨i + 1, by first | rfl | (rw [w64s (by have := HI.out; omega)]), ⟨by have := HI.out; omega⟩, HO2, HB⟩
              | succ k2 =>
                have e := HJ.out
                have ez := HZ.out
                have hc4 := (HB.out.cell (World.block_lt_of_cell? wq _ HC4.out)).trans HC4.out
                have LM := Aside0.mk (show (outN (s.take i) ++ (fourN x).take q).length < 140737488355328 by have := LM0.out; rw [List.length_append, List.length_take]; simp only [fourN, List.length_cons, List.length_nil]; omega)
                have hq : q = 0 ∨ q = 1 ∨ q = 2 ∨ q = 3 := by omega
                rcases hq with rfl | rfl | rfl | rfl
                · obtain rfl : z = 3 := by omega
                  clear e ez HZ
                  go_wp2_with (first | ((with_reducible refine gate_builtin (b := .append) (xs := #[.tmp 129, .tmp 138]) rfl ?_); at_builtin; refine Kd.R_append (Kd.int .u8) (w0 := wq) wq.heap.size rfl (.tmp 129) (.tmp 138) 22 5 (.int .u8 0) 1 rfl Try.underlying22 info5 rfl (by decide) (by omega) _ (outN (s.take i) ++ (fourN x).take 0) ((x : Int) / 16777216 % 256) [.int .u8 ((x : Int) / 16777216 % 256)] (fun _ => True) (fun _ => False) rfl rfl ?aP (fun _ hk => hk.elim) ?aF ?aO ?aB ?aS ?aL ?_; (case aP => exact rfl); (case aB => exact (by repeat (first | (with_reducible first | exact HB.out | apply below_alloc | apply pw_below_drewN | apply below_drew1) | exact HB.out))); (case aF => exact (fun _ _ => trivial)); (case aO => exact (by (with_reducible repeat (first | apply Kd.R_alloc | apply Kd.R_drewN | apply Kd.R_drew)); exact HO.out)); (case aS => exact (below_size (by repeat (first | (with_reducible first | exact HB.out | apply below_alloc | apply pw_below_drewN | apply below_drew1) | exact HB.out)))); (case aL => have := LM.out; omega); intro v139 w12 ho_ hb hg hat; have n0_ := Aside0.mk hb; have n1_ := Aside0.mk ho_; clear HB HO; have HB := n0_; have HO := n1_; clear n0_ n1_ ho_ hb hg hat))
                  have h_ := HO.out
                  rw [show outN (s.take i) ++ (fourN x).take 0 ++ [((x : Int) / 16777216 % 256)] = outN (s.take i) ++ (fourN x).take 1 from by simp [fourN]] at h_
                  have HO2 := Aside0.mk h_
                  clear HO h_
                  go_roundg k2
                  case measure => have := HJ.out; omega
                  case rel => exact ⟨1, 2, by first | rfl | (simp; done) | decide +kernel, ⟨by omega⟩, ⟨by have := HJ.out; omega⟩, HO2, HB⟩
                · obtain rfl : z = 2 := by omega
                  clear e ez HZ
                  go_wp2_with (first | ((with_reducible refine gate_builtin (b := .append) (xs := #[.tmp 129, .tmp 138]) rfl ?_); at_builtin; refine Kd.R_append (Kd.int .u8) (w0 := wq) wq.heap.size rfl (.tmp 129) (.tmp 138) 22 5 (.int .u8 0) 1 rfl Try.underlying22 info5 rfl (by decide) (by omega) _ (outN (s.take i) ++ (fourN x).take 1) ((x : Int) / 65536 % 256) [.int .u8 ((x : Int) / 65536 % 256)] (fun _ => True) (fun _ => False) rfl rfl ?aP (fun _ hk => hk.elim) ?aF ?aO ?aB ?aS ?aL ?_; (case aP => exact rfl); (case aB => exact (by repeat (first | (with_reducible first | exact HB.out | apply below_alloc | apply pw_below_drewN | apply below_drew1) | exact HB.out))); (case aF => exact (fun _ _ => trivial)); (case aO => exact (by (with_reducible repeat (first | apply Kd.R_alloc | apply Kd.R_drewN | apply Kd.R_drew)); exact HO.out)); (case aS => exact (below_size (by repeat (first | (with_reducible first | exact HB.out | apply below_alloc | apply pw_below_drewN | apply below_drew1) | exact HB.out)))); (case aL => have := LM.out; omega); intro v139 w12 ho_ hb hg hat; have n0_ := Aside0.mk hb; have n1_ := Aside0.mk ho_; clear HB HO; have HB := n0_; have HO := n1_; clear n0_ n1_ ho_ hb hg hat))
                  have h_ := HO.out
                  rw [show outN (s.take i) ++ (fourN x).take 1 ++ [((x : Int) / 65536 % 256)] = outN (s.take i) ++ (fourN x).take 2 from by simp [fourN]] at h_
                  have HO2 := Aside0.mk h_
                  clear HO h_
                  go_roundg k2
                  case measure => have := HJ.out; omega
                  case rel => exact ⟨2, 1, by first | rfl | (simp; done) | decide +kernel, ⟨by omega⟩, ⟨by have := HJ.out; omega⟩, HO2, HB⟩
                · obtain rfl : z = 1 := by omega
                  clear e ez HZ
                  go_wp2_with (first | ((with_reducible refine gate_builtin (b := .append) (xs := #[.tmp 129, .tmp 138]) rfl ?_); at_builtin; refine Kd.R_append (Kd.int .u8) (w0 := wq) wq.heap.size rfl (.tmp 129) (.tmp 138) 22 5 (.int .u8 0) 1 rfl Try.underlying22 info5 rfl (by decide) (by omega) _ (outN (s.take i) ++ (fourN x).take 2) ((x : Int) / 256 % 256) [.int .u8 ((x : Int) / 256 % 256)] (fun _ => True) (fun _ => False) rfl rfl ?aP (fun _ hk => hk.elim) ?aF ?aO ?aB ?aS ?aL ?_; (case aP => exact rfl); (case aB => exact (by repeat (first | (with_reducible first | exact HB.out | apply below_alloc | apply pw_below_drewN | apply below_drew1) | exact HB.out))); (case aF => exact (fun _ _ => trivial)); (case aO => exact (by (with_reducible repeat (first | apply Kd.R_alloc | apply Kd.R_drewN | apply Kd.R_drew)); exact HO.out)); (case aS => exact (below_size (by repeat (first | (with_reducible first | exact HB.out | apply below_alloc | apply pw_below_drewN | apply below_drew1) | exact HB.out)))); (case aL => have := LM.out; omega); intro v139 w12 ho_ hb hg hat; have n0_ := Aside0.mk hb; have n1_ := Aside0.mk ho_; clear HB HO; have HB := n0_; have HO := n1_; clear n0_ n1_ ho_ hb hg hat))
                  have h_ := HO.out
                  rw [show outN (s.take i) ++ (fourN x).take 2 ++ [((x : Int) / 256 % 256)] = outN (s.take i) ++ (fourN x).take 3 from by simp [fourN]] at h_
                  have HO2 := Aside0.mk h_
                  clear HO h_
                  go_roundg k2
                  case measure => have := HJ.out; omega
                  case rel => exact ⟨3, 0, by first | rfl | (simp; done) | decide +kernel, ⟨by omega⟩, ⟨by have := HJ.out; omega⟩, HO2, HB⟩
                · obtain rfl : z = 0 := by omega
                  clear e ez HZ
                  go_wp2_with (first | ((with_reducible refine gate_builtin (b := .append) (xs := #[.tmp 129, .tmp 138]) rfl ?_); at_builtin; refine Kd.R_append (Kd.int .u8) (w0 := wq) wq.heap.size rfl (.tmp 129) (.tmp 138) 22 5 (.int .u8 0) 1 rfl Try.underlying22 info5 rfl (by decide) (by omega) _ (outN (s.take i) ++ (fourN x).take 3) ((x : Int) % 256) [.int .u8 ((x : Int) % 256)] (fun _ => True) (fun _ => False) rfl rfl ?aP (fun _ hk => hk.elim) ?aF ?aO ?aB ?aS ?aL ?_; (case aP => exact rfl); (case aB => exact (by repeat (first | (with_reducible first | exact HB.out | apply below_alloc | apply pw_below_drewN | apply below_drew1) | exact HB.out))); (case aF => exact (fun _ _ => trivial)); (case aO => exact (by (with_reducible repeat (first | apply Kd.R_alloc | apply Kd.R_drewN | apply Kd.R_drew)); exact HO.out)); (case aS => exact (below_size (by repeat (first | (with_reducible first | exact HB.out | apply below_alloc | apply pw_below_drewN | apply below_drew1) | exact HB.out)))); (case aL => have := LM.out; omega); intro v139 w12 ho_ hb hg hat; have n0_ := Aside0.mk hb; have n1_ := Aside0.mk ho_; clear HB HO; have HB := n0_; have HO := n1_; clear n0_ n1_ ho_ hb hg hat))
                  have h_ := HO.out
                  rw [show outN (s.take i) ++ (fourN x).take 3 ++ [((x : Int) % 256)] = outN (s.take i) ++ (fourN x).take 4 from by simp [fourN]] at h_
                  have HO2 := Aside0.mk h_
                  clear HO h_
                  go_roundg k2
                  case measure => have := HJ.out; omega
                  case rel => exact ⟨4, -1, by first | rfl | (simp; done) | decide +kernel, ⟨by omega⟩, ⟨by have := HJ.out; omega⟩, HO2, HB⟩
      | succ k1 =>
        have e := HJ.out
        have c1_ : decide ((p : Int) < (m.length : Int)) = true := decide_eq_true (by omega)
        have c2_ : (p < m.length) = True := eq_true (by omega)
        have HP := Aside0.mk (show p + 64 ≤ m.length by omega)
        clear e
        go_wp2_with (first | ((with_reducible refine gate_dst (N := 7) rfl ?_); refine stop_here ?_))
        refine stop_go ?_
        refine box_event (N := 7) (cs := #[.int .i64 0, .int .i64 0, .int .i64 0, .int .i64 0, .int .i64 0, .int .i64 0, .int .i64 0, .int .i64 0, .int .i64 0, .int .i64 0, .int .i64 0, .int .i64 0, .int .i64 0, .int .i64 0, .int .i64 0, .int .i64 0, .int .i64 0, .int .i64 0, .int .i64 0, .int .i64 0, .int .i64 0, .int .i64 0, .int .i64 0, .int .i64 0, .int .i64 0, .int .i64 0, .int .i64 0, .int .i64 0, .int .i64 0, .int .i64 0, .int .i64 0, .int .i64 0, .int .i64 0, .int .i64 0, .int .i64 0, .int .i64 0, .int .i64 0, .int .i64 0, .int .i64 0, .int .i64 0, .int .i64 0, .int .i64 0, .int .i64 0, .int .i64 0, .int .i64 0, .int .i64 0, .int .i64 0, .int .i64 0, .int .i64 0, .int .i64 0, .int .i64 0, .int .i64 0, .int .i64 0, .int .i64 0, .int .i64 0, .int .i64 0, .int .i64 0, .int .i64 0, .int .i64 0, .int .i64 0, .int .i64 0, .int .i64 0, .int .i64 0, .int .i64 0]) (t := 113) ?hgb rfl ?hrb ?_
        case hgb => rfl
        case hrb => first | (go_simp; done) | (go_simp; rfl)
        intro g7 hg wb hbox hb
        have N37 := Aside0.mk (ne_of_lt_eq (blk_lt HV.out.ks) hg)
        have N47 := Aside0.mk (ne_of_lt_eq (blk_lt HV.out.st) hg)
        have G7 := Aside0.mk (show w.heap.size ≤ g7 by rw [hg]; exact below_size HV.out.bl)
        have G7m := Aside0.mk (show wm.heap.size ≤ g7 by rw [hg]; exact HV.out.kp.1)
        have HV2 := Aside0.mk (HV.out.below hb)
        have BO := Aside0.mk hbox
        clear HV hb hbox hg
        go_wp2_with (first | ((with_reducible refine gate_store (t := 113) (p := 7) (v := .tmp 30) rfl ?_); refine stop_here ?_))
        refine stop_go ?_
        refine row_event2 rfl 113 (.tmp 7) (.tmp 30) rfl g7 (i64s (List.replicate 64 0)) rfl rfl 113 _ BO.out ?hi rfl (i64s_one _) rfl HV2.out.bl G7.out ?_
        case hi => kernel_rfl
        intro w8 bo ho hs hb8
        have HW := Aside0.mk (DigS7.mk (HV2.out.other ho hs hb8 N37.out N47.out (.inr G7m.out)) bo)
        clear HV2 BO bo ho hs hb8
        go_wp2
        obtain ⟨dd, hdd⟩ : ∃ dd, dd = (m.drop p).take 64 := ⟨_, rfl⟩
        have hdl : dd.length = 64 := by rw [hdd, List.length_take, List.length_drop]; have := HP.out; omega
        have HDD := Aside0.mk hdd
        have HDL := Aside0.mk hdl
        have HDY := Aside0.mk (show Byt dd by rw [hdd]; exact byt_take (byt_drop HPY.out p) 64)
        clear hdd hdl
        go_loopg [8] 16 (fun kq v8 w' => ∃ i : Nat, v8 = .int .i64 (i : Int) ∧ Aside0 (i + kq = 16) ∧ Aside0 (DigS7 w wm (fun k => k < w6.heap.size ∨ wm.heap.size ≤ k) w' g3 g4 g7 s (sched dd i ++ List.replicate (64 - i) 0)))
        case atStart => exact ⟨0, rfl, ⟨rfl⟩, HW⟩
        case round =>
          clear HW
          obtain ⟨i, rfl, HI, HW⟩ := hrel
          cases gk with
          | zero =>
            have e := HI.out
            have c3_ : decide ((i : Int) < 16) = false := decide_eq_false (by omega)
            obtain rfl : i = 16 := by omega
            clear e HI c3_
            go_wp2
            go_loopg [9] 48 (fun kq v9 w' => ∃ i : Nat, v9 = .int .i64 (i : Int) ∧ Aside0 (16 ≤ i ∧ i + kq = 64) ∧ Aside0 (DigS7 w wm (fun k => k < w6.heap.size ∨ wm.heap.size ≤ k) w' g3 g4 g7 s (sched dd i ++ List.replicate (64 - i) 0)))
            case atStart => exact ⟨16, rfl, ⟨by omega⟩, HW⟩
            case round =>
              clear HW
              obtain ⟨i, rfl, HI, HW⟩ := hrel
              cases gk with
              | zero =>
                have e := HI.out
                have c4_ : decide ((i : Int) < 64) = false := decide_eq_false (by omega)
                obtain rfl : i = 64 := by omega
                rw [show sched dd 64 ++ List.replicate (64 - 64) 0 = sched dd 64 from List.append_nil _] at HW
                have HV := Aside0.mk HW.out
                clear e HI HW c4_
                go_wp2_with (first | ((with_reducible refine gate_dst (N := 93) rfl ?_); refine stop_here ?_))
                refine stop_go ?_
                refine wpList_load_row rfl 115 _ rfl g4 rfl _ _ _ _ HV.out.is.st Try.underlying115 rfl ?hi ?_
                case hi => rw [i64s_size, HS.out.1]; kernel_rfl
                go_wp2_with (first | ((with_reducible refine gate_dst (N := 14) rfl ?_); refine stop_here ?_))
                refine stop_go ?_
                refine box_event (N := 14) (cs := #[.int .i64 0, .int .i64 0, .int .i64 0, .int .i64 0, .int .i64 0, .int .i64 0, .int .i64 0, .int .i64 0]) (t := 115) ?hgb rfl ?hrb ?_
                case hgb => rfl
                case hrb => first | (go_simp; done) | (go_simp; rfl)
                intro g14 hg wb hbox hb
                have M3 := Aside0.mk (ne_of_lt_eq (blk_lt HV.out.is.ks) hg)
                have M4 := Aside0.mk (ne_of_lt_eq (blk_lt HV.out.is.st) hg)
                have M7 := Aside0.mk (ne_of_lt_eq (blk_lt HV.out.wd) hg)
                have G14 := Aside0.mk (show w.heap.size ≤ g14 by rw [hg]; exact below_size HV.out.is.bl)
                have G14m := Aside0.mk (show wm.heap.size ≤ g14 by rw [hg]; exact HV.out.is.kp.1)
                have HV2 := Aside0.mk (HV.out.below hb)
                have BO := Aside0.mk hbox
                clear HV hb hbox hg
                go_wp2_with (first | ((with_reducible refine gate_store (t := 115) (p := 14) (v := .tmp 93) rfl ?_); refine stop_here ?_))
                refine stop_go ?_
                refine row_event2 rfl 115 (.tmp 14) (.tmp 93) rfl g14 (i64s s) rfl rfl 115 _ BO.out ?hi ?hold (i64s_one _) rfl HV2.out.is.bl G14.out ?_
                case hi => rw [i64s_size, HS.out.1]; kernel_rfl
                case hold => rw [i64s_size, HS.out.1]; rfl
                intro wc bo ho hs hb8
                have HW := Aside0.mk (DigS14.mk (HV2.out.other ho hs hb8 M3.out M4.out M7.out (.inr G14m.out)) (show wc.heap[g14]? = some (.cells (i64s (rounds (sched dd 64) s 0)) 115 (0, 0)) from bo))
                clear HV2 BO bo ho hs hb8
                go_wp2
                go_loopg [15] 64 (fun kq v15 w' => ∃ i : Nat, v15 = .int .i64 (i : Int) ∧ Aside0 (i + kq = 64) ∧ Aside0 (DigS14 w wm (fun k => k < w6.heap.size ∨ wm.heap.size ≤ k) w' g3 g4 g7 g14 s (sched dd 64) (rounds (sched dd 64) s i)))
                case atStart => exact ⟨0, rfl, ⟨rfl⟩, HW⟩
                case round =>
                  clear HW
                  obtain ⟨i, rfl, HI, HW⟩ := hrel
                  cases gk with
                  | zero =>
                    have e := HI.out
                    have c5_ : decide ((i : Int) < 64) = false := decide_eq_false (by omega)
                    obtain rfl : i = 64 := by omega
                    have HT := Aside0.mk (rounds_ok (ws := sched dd 64) HS.out.1 HS.out.2 64)
                    have HE := Aside0.mk (show blockN s dd = addS s (rounds (sched dd 64) s 64) from rfl)
                    have HBN := Aside0.mk (blockN_ok HS.out.1 HS.out.2 dd)
                    have HW2 := Aside0.mk HW.out
                    clear HW e HI c5_
                    generalize rounds (sched dd 64) s 64 = t at *
                    have HW4 := Aside0.mk (show DigS14 w wm (fun k => k < w6.heap.size ∨ wm.heap.size ≤ k) wr g3 g4 g7 g14 (part t s 0) (sched dd 64) t by rw [part_zero]; exact HW2.out)
                    clear HW2
                    go_wp2
                    go_loopg [16] 8 (fun kq v16 w' => ∃ i : Nat, v16 = .int .i64 (i : Int) ∧ Aside0 (i + kq = 8) ∧ Aside0 (DigS14 w wm (fun k => k < w6.heap.size ∨ wm.heap.size ≤ k) w' g3 g4 g7 g14 (part t s i) (sched dd 64) t))
                    case atStart => exact ⟨0, rfl, ⟨rfl⟩, HW4⟩
                    case round =>
                      clear HW4
                      obtain ⟨i, rfl, HI, HW⟩ := hrel
                      cases gk with
                      | zero =>
                        have e := HI.out
                        have c6_ : decide ((i : Int) < 8) = false := decide_eq_false (by omega)
                        obtain rfl : i = 8 := by omega
                        have HX := Aside0.mk (show DigS w wm (fun k => k < w6.heap.size ∨ wm.heap.size ≤ k) wr g3 g4 (blockN s dd) by rw [HE.out, addS_comm, ← part_all HT.out.1 HS.out.1]; exact HW.out.is.is)
                        clear e HI HW HE
                        go_wp2
                        go_roundg k1
                        case measure => have := HJ.out; omega
                        case rel => exact ⟨p + 64, blockN s dd, by first | rfl | (rw [w64 (by omega) (by have := HJ.out; have := HPL.out; omega)]; rfl), ⟨by have := HJ.out; omega⟩, ⟨by rw [← HH.out, HDD.out, ← List.drop_drop]; rfl⟩, HBN, HX⟩
                      | succ k2 =>
                        have e := HI.out
                        have c6_ : decide ((i : Int) < 8) = true := decide_eq_true (by omega)
                        have hlt_ : ((i : Int) < 8) = True := eq_true (by omega)
                        have hi0_ : (0 ≤ (i : Int)) = True := eq_true (by omega)
                        have hc4 : wr.cell? ⟨g4, i, none⟩ = some (.int .i64 ((s.getD i 0 : Nat) : Int)) := by
                          have h := (blk_cell HW.out.is.is.st i).trans (i64s_get _ i (by rw [part_length HT.out.1 HS.out.1 i (by omega)]; omega))
                          rw [part_get HT.out.1 HS.out.1 i (by omega)] at h
                          exact h
                        have hc14 : wr.cell? ⟨g14, i, none⟩ = some (.int .i64 ((t.getD i 0 : Nat) : Int)) := (blk_cell HW.out.ou i).trans (i64s_get t i (by rw [HT.out.1]; omega))
                        have hwd := Aside0.mk (add_eqS (small_getD HS.out.2 i) (small_getD HT.out.2 i))
                        have HW6 := Aside0.mk HW.out.drew
                        have hc12 : wr.drew.cell? ⟨g4, i, none⟩ = some (.int .i64 ((s.getD i 0 : Nat) : Int)) := hc4
                        have hfz := blk_frozen HW6.out.is.is.st i
                        have HP := Aside0.mk (part_set HT.out.1 HS.out.1 i (by omega))
                        generalize s.getD i 0 = x at *
                        generalize t.getD i 0 = y at *
                        clear e
                        go_upto_region 28 with fail
                        go_still_tail 10, (by kernel_rfl)
                        change wpList _ _ _ _ _ wr.drew
                        generalize wr.drew = wy at *
                        clear HW hc4 hc14
                        go_wp2_with (first | ((with_reducible refine gate_store (t := 2) (p := 119) (v := .tmp 118) rfl ?_); refine stop_here ?_))
                        refine stop_go ?_
                        refine store_event (w1 := wy.setCell ⟨g4, i, none⟩ (.int .i64 (((y + x) % 4294967296 : Nat) : Int))) rfl rfl rfl ?hr ?_
                        case hr =>
                          rw [← hwd.out]
                          go_simp
                        intro w8 hw8
                        have HW7 := Aside0.mk (HW6.out.putst N34.out (fun h => N47.out h.symm) (fun h => M4.out h.symm) (.inl (.inl L4.out)) G4.out i ((y + x) % 4294967296))
                        rw [← hw8, HP.out] at HW7
                        clear hw8 HW6 hc12 hfz hwd HP
                        go_wp2
                        go_roundg k2
                        case measure => have := HI.out; omega
                        case rel => exact ⟨i + 1, by first | rfl | (rw [w64s (by have := HI.out; omega)]), ⟨by have := HI.out; omega⟩, HW7⟩
                  | succ k2 =>
                    have e := HI.out
                    have c5_ : decide ((i : Int) < 64) = true := decide_eq_true (by omega)
                    have hlt_ : ((i : Int) < 64) = True := eq_true (by omega)
                    have hi0_ : (0 ≤ (i : Int)) = True := eq_true (by omega)
                    have hcw := HW.out.is.cell i (by rw [sched_length]; omega)
                    have hck := (blk_cell HW.out.is.is.ks i).trans (i64s_get keysN i (show i < 64 by omega))
                    clear e
                    go_upto_region 24 with fail
                    refine cwp_named ?_
                    intro wz hz
                    have HWz := Aside0.mk (show DigS14 w wm (fun k => k < w6.heap.size ∨ wm.heap.size ≤ k) wz g3 g4 g7 g14 s (sched dd 64) (rounds (sched dd 64) s i) by rw [← hz]; exact HW.out)
                    replace hcw : wz.cell? ⟨g7, i, none⟩ = some (.int .i64 (((sched dd 64).getD i 0 : Nat) : Int)) := by rw [← hz]; exact hcw
                    replace hck : wz.cell? ⟨g3, i, none⟩ = some (.int .i64 ((keysN.getD i 0 : Nat) : Int)) := by rw [← hz]; exact hck
                    clear hz HW
                    have hro := Aside0.mk (rounds_ok (ws := sched dd 64) HS.out.1 HS.out.2 i)
                    refine wp_region_still_tail 7 (by kernel_rfl) (by kernel_rfl) ?_
                    simp only [List.take_succ_cons, List.take_zero, List.drop_succ_cons, List.drop_zero]
                    refine wpStill_step (fun K hK => ?_)
                    refine still_load_row rfl 115 _ rfl g14 rfl _ _ _ _ HWz.out.ou Try.underlying115 rfl ?hi ?_
                    case hi => rw [i64s_size, hro.out.1]; kernel_rfl
                    refine hK _ ?_
                    clear hK K
                    simp only [Act.put, List.setIfInBounds_toArray, List.set_cons_zero, List.set_cons_succ]
                    repeat still_step
                    refine wpStill_nil ?_
                    have HWy := Aside0.mk HWz.out.drew
                    change wpList _ _ _ _ _ wz.drew
                    generalize wz.drew = wy at *
                    clear HWz hcw hck
                    go_wp2_with (first | (go_at_call 113; refine (spec_l2Round.calls _ hro.out.1 hro.out.2 _ _ (small_getD (sched_small dd 64) i) (small_getD keysN_small i) _).mono ?_; rintro e wr2 ⟨rfl, hbm⟩; have HWm := Aside0.mk (HWy.out.below hbm); clear HWy hbm) | ((with_reducible refine gate_store (t := 115) (p := 14) (v := .tmp 105) rfl ?_); refine stop_here ?_))
                    refine stop_go ?_
                    refine row_event2 rfl 115 (.tmp 14) (.tmp 105) rfl g14 (i64s (rounds (sched dd 64) s (i + 1))) rfl rfl 115 _ HWm.out.ou ?hi ?hold (i64s_one _) rfl HWm.out.is.is.bl G14.out ?_
                    case hi => rw [i64s_size, (rounds_ok HS.out.1 HS.out.2 (i + 1)).1]; kernel_rfl
                    case hold => rw [i64s_size, i64s_size, (rounds_ok HS.out.1 HS.out.2 (i + 1)).1, hro.out.1]
                    intro w9 bo ho hs hb9
                    have HW9 := Aside0.mk (DigS14.mk (HWm.out.is.other ho hs hb9 M3.out M4.out M7.out (.inr G14m.out)) bo)
                    clear HWm bo ho hs hb9
                    go_wp2
                    go_roundg k2
                    case measure => have := HI.out; omega
                    case rel => exact ⟨i + 1, by first | rfl | (rw [w64s (by have := HI.out; omega)]), ⟨by have := HI.out; omega⟩, HW9⟩
              | succ k2 =>
                have e := HI.out
                have c4_ : decide ((i : Int) < 64) = true := decide_eq_true (by omega)
                obtain ⟨j2, hj2⟩ : ∃ j, i = j + 2 := ⟨i - 2, by omega⟩
                obtain ⟨j7, hj7⟩ : ∃ j, i = j + 7 := ⟨i - 7, by omega⟩
                obtain ⟨j15, hj15⟩ : ∃ j, i = j + 15 := ⟨i - 15, by omega⟩
                obtain ⟨j16, hj16⟩ : ∃ j, i = j + 16 := ⟨i - 16, by omega⟩
                have hw2 : wrap64 ((i : Int) - 2) = (j2 : Int) := by rw [show (i : Int) - 2 = (j2 : Int) by omega]; exact w64 (by omega) (by omega)
                have hw7 : IntKind.i64.wrap ((i : Int) - 7) = (j7 : Int) := by rw [show (i : Int) - 7 = (j7 : Int) by omega]; exact wrap_s (by omega) (by omega)
                have hw15 : wrap64 ((i : Int) - 15) = (j15 : Int) := by rw [show (i : Int) - 15 = (j15 : Int) by omega]; exact w64 (by omega) (by omega)
                have hw16 : IntKind.i64.wrap ((i : Int) - 16) = (j16 : Int) := by rw [show (i : Int) - 16 = (j16 : Int) by omega]; exact wrap_s (by omega) (by omega)
                have hb2 : ((j2 : Int) < 64) = True := eq_true (by omega)
                have hb7 : ((j7 : Int) < 64) = True := eq_true (by omega)
                have hb15 : ((j15 : Int) < 64) = True := eq_true (by omega)
                have hb16 : ((j16 : Int) < 64) = True := eq_true (by omega)
                have hlt_ : ((i : Int) < 64) = True := eq_true (by omega)
                have hi0_ : (0 ≤ (i : Int)) = True := eq_true (by omega)
                have hlen := sched_length dd i
                have hsm := sched_small dd i
                have cell : ∀ j, j < i → ∃ x : Nat, (sched dd i).getD j 0 = x ∧ x < 4294967296 ∧ wr.cell? ⟨g7, j, none⟩ = some (.int .i64 (x : Int)) := fun j hj => ⟨_, rfl, small_getD hsm j, by
                  have h := HW.out.cell j (by simp; omega)
                  rw [List.getD_eq_getElem?_getD, List.getElem?_append_left (by omega), ← List.getD_eq_getElem?_getD] at h
                  exact h⟩
                obtain ⟨x2, ex2, lx2, hc2⟩ := cell j2 (by omega)
                obtain ⟨x7, ex7, lx7, hc7⟩ := cell j7 (by omega)
                obtain ⟨x15, ex15, lx15, hc15⟩ := cell j15 (by omega)
                obtain ⟨x16, ex16, lx16, hc16⟩ := cell j16 (by omega)
                have R7 := Aside0.mk (show spec_l2Rot.f (x15 : Int) 7 = some ((rotr 7 x15 : Nat) : Int) from l2Rot_eq lx15 7 (by decide) (by decide))
                have R18 := Aside0.mk (show spec_l2Rot.f (x15 : Int) 18 = some ((rotr 18 x15 : Nat) : Int) from l2Rot_eq lx15 18 (by decide) (by decide))
                have R17 := Aside0.mk (show spec_l2Rot.f (x2 : Int) 17 = some ((rotr 17 x2 : Nat) : Int) from l2Rot_eq lx2 17 (by decide) (by decide))
                have R19 := Aside0.mk (show spec_l2Rot.f (x2 : Int) 19 = some ((rotr 19 x2 : Nat) : Int) from l2Rot_eq lx2 19 (by decide) (by decide))
                have hq_ := Aside0.mk (show nextW (sched dd i) i = (sml1 x2 + x7 + sml0 x15 + x16) % 4294967296 by
                  unfold nextW
                  rw [show i - 2 = j2 by omega, show i - 7 = j7 by omega, show i - 15 = j15 by omega, show i - 16 = j16 by omega, ex2, ex7, ex15, ex16])
                have hk_ := Aside0.mk (And.intro lx2 (And.intro lx7 (And.intro lx15 lx16)))
                clear e cell hlen hsm ex2 ex7 ex15 ex16 lx2 lx7 lx15 lx16 hj2 hj7 hj15 hj16
                go_upto_region 19 with (first | (go_at_call 112; (first | with_reducible refine (spec_l2Rot.calls _ _ _ _ R7.out).mono ?_ | with_reducible refine (spec_l2Rot.calls _ _ _ _ R18.out).mono ?_ | with_reducible refine (spec_l2Rot.calls _ _ _ _ R17.out).mono ?_ | with_reducible refine (spec_l2Rot.calls _ _ _ _ R19.out).mono ?_); rintro e w' ⟨rfl, ⟨nd, rfl⟩⟩))
                rw [sml0_eqS hk_.out.2.2.1, sml1_eqS hk_.out.1]
                refine cwp_named ?_
                intro wz hz
                have HVz := Aside0.mk (show DigS7 w wm (fun k => k < w6.heap.size ∨ wm.heap.size ≤ k) wz g3 g4 g7 s (sched dd i ++ List.replicate (64 - i) 0) by rw [← hz]; exact HW.out.drewN _)
                replace hc7 : wz.cell? ⟨g7, j7, none⟩ = some (.int .i64 (x7 : Int)) := by rw [← hz]; exact hc7
                replace hc16 : wz.cell? ⟨g7, j16, none⟩ = some (.int .i64 (x16 : Int)) := by rw [← hz]; exact hc16
                clear hz hc2 hc15 HW
                have HV2 := Aside0.mk HVz.out.drew
                have hcs := HV2.out.cell i (by have := sched_length dd i; have := HI.out; simp; omega)
                have hfz := blk_frozen HV2.out.wd i
                have hwd := Aside0.mk (next_eqS (sched dd i) i x2 x7 x15 x16 hk_.out.1 hk_.out.2.1 hk_.out.2.2.1 hk_.out.2.2.2 hq_.out)
                go_still_tail 16, (by kernel_rfl)
                change wpList _ _ _ _ _ wz.drew
                generalize wz.drew = wy at *
                clear HVz hc7 hc16
                go_wp2_with (first | ((with_reducible refine gate_store (t := 2) (p := 92) (v := .tmp 91) rfl ?_); refine stop_here ?_))
                refine stop_go ?_
                refine store_event (w1 := wy.setCell ⟨g7, i, none⟩ (.int .i64 ((nextW (sched dd i) i : Nat) : Int))) rfl rfl rfl ?hr ?_
                case hr =>
                  rw [← hwd.out]
                  go_simp
                intro w9 hw9
                have HV3 := Aside0.mk (HV2.out.put N37.out N47.out (.inr G7m.out) G7.out i (nextW (sched dd i) i))
                rw [set_fill (sched_length dd i) (by have := HI.out; omega), ← hw9, show sched dd i ++ [nextW (sched dd i) i] = sched dd (i + 1) from by have := HI.out; simp [sched, show ¬ i < 16 by omega]] at HV3
                clear hw9 HV2 hcs hfz hwd
                go_wp2
                go_roundg k2
                case measure => have := HI.out; omega
                case rel => exact ⟨i + 1, by first | rfl | (rw [w64s (by have := HI.out; omega)]), ⟨by have := HI.out; omega⟩, HV3⟩
          | succ k2 =>
            have e := HI.out
            have c3_ : decide ((i : Int) < 16) = true := decide_eq_true (by omega)
            have hP := HP.out
            have hPL := HPL.out
            obtain ⟨lo, hlo⟩ : ∃ n : Nat, n = p + 4 * i := ⟨_, rfl⟩
            have hq0 : wrap64 (4 * (i : Int)) = 4 * (i : Int) := w64 (by omega) (by omega)
            have hq1 : wrap64 ((p : Int) + 4 * (i : Int)) = (p : Int) + 4 * (i : Int) := w64 (by omega) (by omega)
            have hq2 : wrap64 ((p : Int) + 4 * (i : Int) + 4) = (p : Int) + 4 * (i : Int) + 4 := w64 (by omega) (by omega)
            have t1 : ((p : Int) + 4 * (i : Int)).toNat = lo := by omega
            have t2 : ((p : Int) + 4 * (i : Int) + 4).toNat = lo + 4 := by omega
            obtain ⟨i5, hi5, _, hsz5, _⟩ := info_parts info5
            have hcut := cut_mid (P := Try.prog) 22 5 .i64 .i64 Try.underlying22 hi5 1 hsz5 A m.length c ((p : Int) + 4 * (i : Int)) ((p : Int) + 4 * (i : Int) + 4) (by omega) (by omega) (by omega) HCc.out
            rw [t1, t2] at hcut
            have hCm := Kd.C_mid (HCk.out _ HW.out.is.kp) (lo := lo) (hi := lo + 4) (by omega) (by omega) HCc.out
            obtain ⟨four, hfo⟩ : ∃ f, f = (m.take (lo + 4)).drop lo := ⟨_, rfl⟩
            obtain ⟨A2, hA2⟩ : ∃ A2, A2 = (if c = lo then A else A.map (·.add (lo * (Kd.int .u8).sz))) := ⟨_, rfl⟩
            rw [← hA2, ← hfo] at hCm
            have hfl : four.length = 4 := by rw [hfo, List.length_drop, List.length_take]; omega
            have hcutB : ∀ W : World, (Instr.slice 22 (.slice A m.length c) (some (.int .i64 ((p : Int) + 4 * (i : Int)))) (some (.int .i64 ((p : Int) + 4 * (i : Int) + 4))) none).run Try.prog W = .ok (.slice A2 four.length (c - lo)) W := fun W => by rw [hcut W, hA2, hfl, show lo + 4 - lo = 4 by omega]; rfl
            have HC4 := Aside0.mk hCm
            have HF4 := Aside0.mk (show four.length ≤ c - lo by have := HCc.out; omega)
            have HNm := Aside0.mk (four_word HDY.out hfl i (by rw [HDL.out]; omega) (fun j hj => by
              rw [hfo, HDD.out, List.getElem?_drop, List.getElem?_take, if_pos (by omega), List.getElem?_take, if_pos (by omega), List.getElem?_drop]
              congr 1
              omega))
            have hlt_ : ((i : Int) < 64) = True := eq_true (by omega)
            have hi0_ : (0 ≤ (i : Int)) = True := eq_true (by omega)
            have HI2 := Aside0.mk (show i < 16 by omega)
            clear hcut hCm hfo hA2 hfl hi5 hsz5 t1 t2 e hP hPL hlo
            go_wp2_with (first | (go_at_call 111; refine (spec_l1Number.calls 5 A2 (c - lo) four _ _ HC4.out HF4.out HNm.out).mono ?_; rintro e w' ⟨rfl, ⟨nd, rfl⟩⟩) | ((with_reducible refine gate_store (t := 2) (p := 48) (v := .tmp 47) rfl ?_); refine stop_here ?_))
            refine stop_go ?_
            refine wp_named ?_
            intro wz hz
            have HWz := Aside0.mk (show DigS7 w wm (fun k => k < w6.heap.size ∨ wm.heap.size ≤ k) wz g3 g4 g7 s (sched dd i ++ List.replicate (64 - i) 0) by rw [← hz]; exact HW.out.drewN _)
            clear hz HW
            have hcs := HWz.out.cell i (by have := sched_length dd i; have := HI2.out; simp; omega)
            have hfz := blk_frozen HWz.out.wd i
            refine store_event (w1 := wz.setCell ⟨g7, i, none⟩ (.int .i64 ((word dd i : Nat) : Int))) rfl rfl rfl ?hr ?_
            case hr => go_simp
            intro w9 hw9
            have HV3 := Aside0.mk (HWz.out.put N37.out N47.out (.inr G7m.out) G7.out i (word dd i))
            rw [set_fill (sched_length dd i) (by have := HI2.out; omega), ← hw9, show sched dd i ++ [word dd i] = sched dd (i + 1) from by simp [sched, HI2.out]] at HV3
            clear hw9 HWz hcs hfz
            go_wp2
            go_roundg k2
            case measure => have := HI.out; omega
            case rel => exact ⟨i + 1, by first | rfl | (rw [w64s (by have := HI.out; omega)]), ⟨by have := HI.out; omega⟩, HV3⟩
  · rw [if_neg hk] at h
    cases h


end Go.Proofs.Ytchmaojmknfbpaa.S
