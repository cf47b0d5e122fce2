/- SHA-256 as a plain function of lists of numbers, and the walks over the program's rounds, keys, blocks and digest: they come to it, for all bytes that fit. -/
import Derived.Test.YtchmaojmknfbpaaBase
import Derived.Test.YtchmaojmknfbpaaSx0
import Derived.Laws.Tables
import Derived.Laws.CopyOwn
import Derived.WalkSpells
import Derived.Laws.Externs
import Derived.StillTailTactics
import Derived.BigQuiet
/- SHA-256 as a plain function of lists of numbers: what the walks over the program's text and over the reference's come to. Nothing of the program stands in this text. -/
set_option linter.unusedVariables false
namespace Go.Proofs.Ytchmaojmknfbpaa.Sha
open Go.RowKit Go.Proofs.YtchmaojmknfbpaaW.PrintWords Go.Proofs.Ytchmaojmknfbpaa.Base

def rotr (n x : Nat) : Nat := x / 2 ^ n ||| x * 2 ^ (32 - n) % 4294967296
def big1 (e : Nat) : Nat := rotr 6 e ^^^ rotr 11 e ^^^ rotr 25 e
def big0 (a : Nat) : Nat := rotr 2 a ^^^ rotr 13 a ^^^ rotr 22 a
def choice (e f g : Nat) : Nat := (e &&& f) ^^^ ((4294967295 - e) &&& g)
def most (a b c : Nat) : Nat := (a &&& b) ^^^ (a &&& c) ^^^ (b &&& c)
def sml0 (x : Nat) : Nat := rotr 7 x ^^^ rotr 18 x ^^^ x / 8
def sml1 (y : Nat) : Nat := rotr 17 y ^^^ rotr 19 y ^^^ y / 1024
def t1N (e f g h w k : Nat) : Nat := (h + big1 e + choice e f g + k + w) % 4294967296
def t2N (a b c : Nat) : Nat := (big0 a + most a b c) % 4294967296
def mixN : List Nat → Nat → Nat → List Nat
  | [a, b, c, d, e, f, g, h], w, k => [(t1N e f g h w k + t2N a b c) % 4294967296, a, b, c, (d + t1N e f g h w k) % 4294967296, e, f, g]
  | _, _, _ => []

def small (s : List Nat) : Prop := ∀ x ∈ s, x < 4294967296
theorem rotr_lt (n : Nat) {x : Nat} (h : x < 4294967296) : rotr n x < 4294967296 := by
  unfold rotr
  refine Nat.or_lt_two_pow (n := 32) ?_ (Nat.mod_lt _ (by decide))
  exact Nat.lt_of_le_of_lt (Nat.div_le_self _ _) h
theorem xor_lt {x y : Nat} (hx : x < 4294967296) (hy : y < 4294967296) : x ^^^ y < 4294967296 := Nat.xor_lt_two_pow (n := 32) hx hy
theorem and_lt {x y : Nat} (hy : y < 4294967296) : x &&& y < 4294967296 := Nat.and_lt_two_pow (n := 32) x hy
theorem big1_lt {x : Nat} (h : x < 4294967296) : big1 x < 4294967296 := xor_lt (xor_lt (rotr_lt _ h) (rotr_lt _ h)) (rotr_lt _ h)
theorem big0_lt {x : Nat} (h : x < 4294967296) : big0 x < 4294967296 := xor_lt (xor_lt (rotr_lt _ h) (rotr_lt _ h)) (rotr_lt _ h)
theorem sml0_lt {x : Nat} (h : x < 4294967296) : sml0 x < 4294967296 := xor_lt (xor_lt (rotr_lt _ h) (rotr_lt _ h)) (by omega)
theorem sml1_lt {x : Nat} (h : x < 4294967296) : sml1 x < 4294967296 := xor_lt (xor_lt (rotr_lt _ h) (rotr_lt _ h)) (by omega)
theorem choice_lt {e f g : Nat} (hf : f < 4294967296) (hg : g < 4294967296) : choice e f g < 4294967296 := xor_lt (and_lt hf) (and_lt hg)
theorem most_lt {a b c : Nat} (hb : b < 4294967296) (hc : c < 4294967296) : most a b c < 4294967296 := xor_lt (xor_lt (and_lt hb) (and_lt hc)) (and_lt hc)
theorem t1N_lt (e f g h w k : Nat) : t1N e f g h w k < 4294967296 := Nat.mod_lt _ (by decide)
theorem t2N_lt (a b c : Nat) : t2N a b c < 4294967296 := Nat.mod_lt _ (by decide)
theorem eight {s : List Nat} (h : s.length = 8) : ∃ a b c d e f g h', s = [a, b, c, d, e, f, g, h'] := by
  match s, h with
  | [a, b, c, d, e, f, g, h'], _ => exact ⟨a, b, c, d, e, f, g, h', rfl⟩
theorem mixN_length {s : List Nat} (h : s.length = 8) (w k : Nat) : (mixN s w k).length = 8 := by
  obtain ⟨a, b, c, d, e, f, g, h', rfl⟩ := eight h
  rfl
theorem small_cons {x : Nat} {s : List Nat} (hx : x < 4294967296) (hs : small s) : small (x :: s) := fun y hy => by
  rcases List.mem_cons.1 hy with rfl | h
  · exact hx
  · exact hs y h
theorem small_nil : small [] := fun _ h => by cases h
theorem small_append {s t : List Nat} (hs : small s) (ht : small t) : small (s ++ t) := fun y hy => by
  rcases List.mem_append.1 hy with h | h
  · exact hs y h
  · exact ht y h
theorem small_getD {s : List Nat} (h : small s) (i : Nat) : s.getD i 0 < 4294967296 := by
  rw [List.getD_eq_getElem?_getD]
  cases e : s[i]? with
  | none => simp
  | some x => exact h x (List.mem_of_getElem? e)
theorem mixN_small {s : List Nat} (h : s.length = 8) (hs : small s) (w k : Nat) : small (mixN s w k) := by
  obtain ⟨a, b, c, d, e, f, g, h', rfl⟩ := eight h
  have hm : ∀ x : Nat, x % 4294967296 < 4294967296 := fun x => Nat.mod_lt _ (by decide)
  refine small_cons (hm _) (small_cons (hs a (by simp)) (small_cons (hs b (by simp)) (small_cons (hs c (by simp)) (small_cons (hm _) (small_cons (hs e (by simp)) (small_cons (hs f (by simp)) (small_cons (hs g (by simp)) small_nil)))))))

/-! The message's words, the rounds, the blocks. -/
def keysN : List Nat := [0x428a2f98, 0x71374491, 0xb5c0fbcf, 0xe9b5dba5, 0x3956c25b, 0x59f111f1, 0x923f82a4, 0xab1c5ed5, 0xd807aa98, 0x12835b01, 0x243185be, 0x550c7dc3, 0x72be5d74, 0x80deb1fe, 0x9bdc06a7, 0xc19bf174, 0xe49b69c1, 0xefbe4786, 0x0fc19dc6, 0x240ca1cc, 0x2de92c6f, 0x4a7484aa, 0x5cb0a9dc, 0x76f988da, 0x983e5152, 0xa831c66d, 0xb00327c8, 0xbf597fc7, 0xc6e00bf3, 0xd5a79147, 0x06ca6351, 0x14292967, 0x27b70a85, 0x2e1b2138, 0x4d2c6dfc, 0x53380d13, 0x650a7354, 0x766a0abb, 0x81c2c92e, 0x92722c85, 0xa2bfe8a1, 0xa81a664b, 0xc24b8b70, 0xc76c51a3, 0xd192e819, 0xd6990624, 0xf40e3585, 0x106aa070, 0x19a4c116, 0x1e376c08, 0x2748774c, 0x34b0bcb5, 0x391c0cb3, 0x4ed8aa4a, 0x5b9cca4f, 0x682e6ff3, 0x748f82ee, 0x78a5636f, 0x84c87814, 0x8cc70208, 0x90befffa, 0xa4506ceb, 0xbef9a3f7, 0xc67178f2]
def startN : List Nat := [0x6a09e667, 0xbb67ae85, 0x3c6ef372, 0xa54ff53a, 0x510e527f, 0x9b05688c, 0x1f83d9ab, 0x5be0cd19]
/-- A byte of the message. -/
def by8 (d : List Int) (i : Nat) : Nat := (d.getD i 0).toNat % 256
def word (d : List Int) (i : Nat) : Nat := by8 d (4 * i) * 16777216 + by8 d (4 * i + 1) * 65536 + by8 d (4 * i + 2) * 256 + by8 d (4 * i + 3)
def nextW (ws : List Nat) (i : Nat) : Nat := (sml1 (ws.getD (i - 2) 0) + ws.getD (i - 7) 0 + sml0 (ws.getD (i - 15) 0) + ws.getD (i - 16) 0) % 4294967296
def sched (d : List Int) : Nat → List Nat
  | 0 => []
  | i + 1 => sched d i ++ [if i < 16 then word d i else nextW (sched d i) i]
def rounds (ws s : List Nat) : Nat → List Nat
  | 0 => s
  | i + 1 => mixN (rounds ws s i) (ws.getD i 0) (keysN.getD i 0)
def addS (s t : List Nat) : List Nat := List.zipWith (fun x y => (x + y) % 4294967296) s t
def blockN (s : List Nat) (d : List Int) : List Nat := addS s (rounds (sched d 64) s 64)
def hashN : Nat → List Nat → List Int → List Nat
  | 0, s, _ => s
  | n + 1, s, d => hashN n (blockN s (d.take 64)) (d.drop 64)
def be8 (n : Nat) : List Int := [((n / 72057594037927936 % 256 : Nat) : Int), ((n / 281474976710656 % 256 : Nat) : Int), ((n / 1099511627776 % 256 : Nat) : Int), ((n / 4294967296 % 256 : Nat) : Int), ((n / 16777216 % 256 : Nat) : Int), ((n / 65536 % 256 : Nat) : Int), ((n / 256 % 256 : Nat) : Int), ((n % 256 : Nat) : Int)]
def fillN (n : Nat) : Nat := (119 - n % 64) % 64
def pad (l : List Int) : List Int := l ++ [128] ++ List.replicate (fillN l.length) 0 ++ be8 (l.length * 8)
def outN (s : List Nat) : List Int := s.flatMap fun x => [((x / 16777216 % 256 : Nat) : Int), ((x / 65536 % 256 : Nat) : Int), ((x / 256 % 256 : Nat) : Int), ((x % 256 : Nat) : Int)]
/-- The digest. -/
def sha (l : List Int) : List Int := outN (hashN ((pad l).length / 64) startN (pad l))

theorem by8_lt (d : List Int) (i : Nat) : by8 d i < 256 := Nat.mod_lt _ (by decide)
theorem word_lt (d : List Int) (i : Nat) : word d i < 4294967296 := by
  have h0 := by8_lt d (4 * i)
  have h1 := by8_lt d (4 * i + 1)
  have h2 := by8_lt d (4 * i + 2)
  have h3 := by8_lt d (4 * i + 3)
  unfold word
  omega
theorem sched_length (d : List Int) : ∀ i, (sched d i).length = i
  | 0 => rfl
  | i + 1 => by simp [sched, sched_length d i]
theorem sched_small (d : List Int) : ∀ i, small (sched d i)
  | 0 => small_nil
  | i + 1 => by
    refine small_append (sched_small d i) (small_cons ?_ small_nil)
    split
    · exact word_lt d i
    · exact Nat.mod_lt _ (by decide)
theorem rounds_ok {ws s : List Nat} (h : s.length = 8) (hs : small s) : ∀ i, (rounds ws s i).length = 8 ∧ small (rounds ws s i)
  | 0 => ⟨h, hs⟩
  | i + 1 => ⟨mixN_length (rounds_ok h hs i).1 _ _, mixN_small (rounds_ok h hs i).1 (rounds_ok h hs i).2 _ _⟩
theorem addS_small (s t : List Nat) : small (addS s t) := by
  intro x hx
  unfold addS at hx
  obtain ⟨i, hi, rfl⟩ := List.getElem_of_mem hx
  rw [List.getElem_zipWith]
  exact Nat.mod_lt _ (by decide)
theorem addS_length {s t : List Nat} (h : s.length = 8) (h' : t.length = 8) : (addS s t).length = 8 := by simp [addS, h, h']
theorem blockN_ok {s : List Nat} (h : s.length = 8) (hs : small s) (d : List Int) : (blockN s d).length = 8 ∧ small (blockN s d) :=
  ⟨addS_length h (rounds_ok h hs 64).1, addS_small _ _⟩
theorem hashN_ok : ∀ (n : Nat) {s : List Nat} (d : List Int), s.length = 8 → small s → (hashN n s d).length = 8 ∧ small (hashN n s d)
  | 0, s, d, h, hs => ⟨h, hs⟩
  | n + 1, s, d, h, hs => hashN_ok n (d.drop 64) (blockN_ok h hs _).1 (blockN_ok h hs _).2
theorem keysN_small : small keysN := by
  unfold small
  decide +kernel
theorem startN_small : small startN := by
  unfold small
  decide +kernel
theorem outN_length : ∀ s : List Nat, (outN s).length = 4 * s.length
  | [] => rfl
  | x :: s => by
    have := outN_length s
    unfold outN at this ⊢
    rw [List.flatMap_cons, List.length_append, this, List.length_cons]
    simp
    omega
theorem outN_byt (s : List Nat) : Byt (outN s) := by
  intro y hy
  unfold outN at hy
  obtain ⟨x, _, hx⟩ := List.mem_flatMap.1 hy
  simp only [List.mem_cons, List.not_mem_nil, or_false] at hx
  rcases hx with rfl | rfl | rfl | rfl <;> omega
theorem sha_length (l : List Int) : (sha l).length = 32 := by
  unfold sha
  rw [outN_length, (hashN_ok _ _ rfl startN_small).1]
theorem sha_byt (l : List Int) : Byt (sha l) := outN_byt _
theorem be8_length (n : Nat) : (be8 n).length = 8 := rfl
theorem pad_length (l : List Int) : (pad l).length = l.length + 1 + fillN l.length + 8 := by
  simp [pad, be8_length]
  omega
theorem pad_mod (l : List Int) : (pad l).length % 64 = 0 := by
  rw [pad_length]
  unfold fillN
  omega
theorem be8_byt (n : Nat) : Byt (be8 n) := by
  intro y hy
  simp only [be8, List.mem_cons, List.not_mem_nil, or_false] at hy
  rcases hy with rfl | rfl | rfl | rfl | rfl | rfl | rfl | rfl <;> omega
theorem pad_byt {l : List Int} (h : Byt l) : Byt (pad l) := by
  refine byt_append (byt_append (byt_append h (byt_one (by omega) (by omega))) ?_) (be8_byt _)
  intro x hx
  rw [List.eq_of_mem_replicate hx]
  omega
end Go.Proofs.Ytchmaojmknfbpaa.Sha

/- Words of 32 bits: what the program's operations on them come to in plain numbers. -/
set_option linter.unusedVariables false
namespace Go.Proofs.Ytchmaojmknfbpaa.S
open Go.RowKit Go.Proofs.YtchmaojmknfbpaaW.PrintWords Go.Proofs.YtchmaojmknfbpaaW.PrintLast Go.Proofs.YtchmaojmknfbpaaW.PrintMore Go.Proofs.Ytchmaojmknfbpaa.Base Go.Proofs.Ytchmaojmknfbpaa.Sha

/-- An array of words. -/
def u32s (s : List Nat) : Array Value := (s.map fun x : Nat => Value.int .u32 (x : Int)).toArray
end Go.Proofs.Ytchmaojmknfbpaa.S

/- A whole array stored into its block, in one step of a walk: what is behind it is told by three facts. -/
set_option linter.unusedVariables false
namespace Go.Proofs.Ytchmaojmknfbpaa.Base
open Go Go.RowKit Go.Proofs.YtchmaojmknfbpaaW.PrintWords Go.Proofs.YtchmaojmknfbpaaW.PrintLast Go.Proofs.YtchmaojmknfbpaaW.PrintMore

/-- Where a walk stands still: its goal under a word, until 'stop_go'. -/
def Stop (p : Prop) : Prop := p
theorem stop_here {p : Prop} (h : Stop p) : p := h
theorem stop_go {p : Prop} (h : p) : Stop p := h
theorem row_event {P : Program} {ops : Array Oper} {rest : List Oper} {o : Oper} {a : Act} {w w0 : World} {B : Nat} {Q : Exit → Act → World → Prop} (hgd : o.guard = none) (ty : TypeId) (x y : Operand) (ho : o.op = .store ty x y)
    (g : Nat) (cells : Array Value) (hx : a.eval x = .pointer (some ⟨g, 0, none⟩)) (hy : a.eval y = .agg cells)
    (t : TypeId) (old : Array Value) (hg : w.heap[g]? = some (.cells old t (0, 0))) (hi : (P.info? ty).map (·.size) = some cells.size)
    (hold : old.size = cells.size) (h1 : cells.all (·.oneCell') = true) (hd : o.dst = none) (hb : Below B w0 w) (hB : B ≤ g)
    (h : ∀ w1 : World, w1.heap[g]? = some (.cells cells t (0, 0)) → (∀ k, k ≠ g → w1.heap[k]? = w.heap[k]?) → Below B w0 w1 → wpList P ops Q rest a w1) : wpList P ops Q (o :: rest) a w := by
  refine wpList_store_row hgd ty x y ho g cells hx hy t old hg hi hold h1 ?_
  rw [hd]
  exact h _ (setRow_heap w g old cells t (0, 0) hg) (fun k hk => setRow_other w g k cells hk) (below_setRow hb hB cells)
theorem blk_other {w w1 : World} {g k : Nat} {o : Obj} (h : w.heap[k]? = some o) (hw : ∀ k, k ≠ g → w1.heap[k]? = w.heap[k]?) (hne : k ≠ g) : w1.heap[k]? = some o := (hw k hne).trans h
end Go.Proofs.Ytchmaojmknfbpaa.Base

/- A round of a state: the walk over the program's 'mixed'. -/
set_option linter.unusedVariables false
set_option linter.unusedSimpArgs false
namespace Go.Proofs.Ytchmaojmknfbpaa.S
open Go.RowKit Go.Proofs.YtchmaojmknfbpaaW.PrintWords Go.Proofs.YtchmaojmknfbpaaW.PrintLast Go.Proofs.YtchmaojmknfbpaaW.PrintMore Go.Proofs.Ytchmaojmknfbpaa.Base Go.Proofs.Ytchmaojmknfbpaa.Sha
attribute [local go_sem] max2_int min2_int max_two min_two max_three min_three max_four min_four

theorem quiet_add {P : Program} {f : FuncId} {args : Array Value} {w : World} {n m : Nat} {v : Value} (h : Calls P f args (w.drewN (n + m)) fun e w' => e = .returned v ∧ Drawn0 (w.drewN (n + m)) w') :
    Calls P f args (w.drewN (n + m)) fun e w'' => e = .returned v ∧ ∃ q, w'' = w.drewN (n + q) :=
  h.mono fun _ _ h => ⟨h.1, by obtain ⟨q, hq⟩ := h.2.out; exact ⟨m + q, by rw [hq, World.drewN_drewN, Nat.add_assoc]⟩⟩
end Go.Proofs.Ytchmaojmknfbpaa.S

/- The rounds' keys. -/
set_option linter.unusedVariables false
set_option linter.unusedSimpArgs false
namespace Go.Proofs.Ytchmaojmknfbpaa.S
open Go.RowKit Go.Proofs.YtchmaojmknfbpaaW.PrintWords Go.Proofs.YtchmaojmknfbpaaW.PrintLast Go.Proofs.YtchmaojmknfbpaaW.PrintMore Go.Proofs.Ytchmaojmknfbpaa.Base Go.Proofs.Ytchmaojmknfbpaa.Sha
attribute [local go_sem] max2_int min2_int max_two min_two max_three min_three max_four min_four

end Go.Proofs.Ytchmaojmknfbpaa.S

/- A block added to a state: the walk over the program's 'block'. -/
set_option linter.unusedVariables false
set_option linter.unusedSimpArgs false
namespace Go.Proofs.Ytchmaojmknfbpaa.S
open Go.RowKit Go.Proofs.YtchmaojmknfbpaaW.PrintWords Go.Proofs.YtchmaojmknfbpaaW.PrintLast Go.Proofs.YtchmaojmknfbpaaW.PrintMore Go.Proofs.Ytchmaojmknfbpaa.Base Go.Proofs.Ytchmaojmknfbpaa.Sha
attribute [local go_sem] max2_int min2_int max_two min_two max_three min_three max_four min_four

theorem ne_of_lt_eq {a b c : Nat} (h : a < c) (e : b = c) : a ≠ b := by omega
/-- The arrays of a block's walk: the state, the result's place, the message's words. -/
structure BlkInv (w0 w : World) (g2 g4 g5 : Nat) (s ws : List Nat) : Prop where
  st : w.heap[g2]? = some (.cells (u32s s) 122 (0, 0))
  re : w.heap[g4]? = some (.cells (u32s (List.replicate 8 0)) 122 (0, 0))
  wd : w.heap[g5]? = some (.cells (u32s ws) 125 (0, 0))
  bl : Below w0.heap.size w0 w
/-- The sum, place by place. -/
def part (s t : List Nat) (i : Nat) : List Nat := (addS s t).take i ++ t.drop i
theorem part_set {s t : List Nat} (hs : s.length = 8) (ht : t.length = 8) (i : Nat) (hi : i < 8) : (part s t i).set i ((s.getD i 0 + t.getD i 0) % 4294967296) = part s t (i + 1) := by
  have hl : ((addS s t).take i).length = i := by simp [addS, hs, ht]; omega
  have ha : i < (addS s t).length := by simp [addS, hs, ht]; omega
  unfold part
  rw [List.set_append_right _ _ (by omega), hl, Nat.sub_self, List.drop_eq_getElem_cons (by omega), List.set_cons_zero, List.take_succ_eq_append_getElem ha, List.append_assoc]
  simp [addS, List.getD_eq_getElem?_getD, List.getElem?_eq_getElem (show i < s.length by omega), List.getElem?_eq_getElem (show i < t.length by omega)]
theorem part_get {s t : List Nat} (hs : s.length = 8) (ht : t.length = 8) (i : Nat) (hi : i < 8) : (part s t i).getD i 0 = t.getD i 0 := by
  have hl : ((addS s t).take i).length = i := by simp [addS, hs, ht]; omega
  unfold part
  rw [List.getD_eq_getElem?_getD, List.getElem?_append_right (by omega), hl, Nat.sub_self, List.getElem?_drop, ← List.getD_eq_getElem?_getD]
  rfl
theorem part_length {s t : List Nat} (hs : s.length = 8) (ht : t.length = 8) (i : Nat) (hi : i ≤ 8) : (part s t i).length = 8 := by
  simp [part, addS, hs, ht]
  omega
theorem part_all {s t : List Nat} (hs : s.length = 8) (ht : t.length = 8) : part s t 8 = addS s t := by
  unfold part
  rw [List.take_of_length_le (by simp [addS, hs, ht]), List.drop_of_length_le (by omega), List.append_nil]
theorem part_zero (s t : List Nat) : part s t 0 = t := by simp [part]
theorem cwp_named {P : Program} {c : Code} {Q : Exit → Act → World → Prop} {a : Act} {W : World} (h : ∀ wz, W = wz → Code.wp P c Q a wz) : Code.wp P c Q a W := h W rfl
theorem still_load_row {P : Program} {ops : Array Oper} {o : Oper} {a : Act} {w : World} {K : Act → Prop} (hgd : o.guard = none) (ty : TypeId) (x : Operand) (ho : o.op = .load ty x)
    (g : Nat) (hx : a.eval x = .pointer (some ⟨g, 0, none⟩)) (t : TypeId) (cs : Array Value) (fr : Nat × Nat) (d : TypeDesc) (hg : w.heap[g]? = some (.cells cs t fr))
    (hu : P.underlying ty = some d) (hd : (match d with | .struct _ | .array _ _ => true | _ => false) = true) (hi : (P.info? ty).map (·.size) = some cs.size)
    (h : K (a.put o.dst (.agg cs))) : if Region.wanted o (yielded ops a.tmps) then o.still P a w K else K (a.put o.dst undef) := by
  have hw : Region.wanted o (yielded ops a.tmps) = true := by unfold Region.wanted; rw [hgd]
  rw [if_pos hw]
  unfold Oper.still execOp
  simp only [ho, hx, Instr.loadAt, Instr.sureAddr, Sem.run_bind, Sem.run_pure, Result.andThen_ok, run_loadVar_row w g t ty cs fr d hg hu hd hi]
  exact ⟨rfl, h⟩
structure BlkInv2 (w0 w : World) (g2 g4 g5 g11 : Nat) (s ws r : List Nat) : Prop where
  is : BlkInv w0 w g2 g4 g5 s ws
  ou : w.heap[g11]? = some (.cells (u32s r) 122 (0, 0))
theorem set_fill {l : List Nat} {n i : Nat} (hl : l.length = i) (h : i < n) (v : Nat) : (l ++ List.replicate (n - i) 0).set i v = (l ++ [v]) ++ List.replicate (n - (i + 1)) 0 := by
  rw [List.set_append_right i v (by omega), show n - i = (n - (i + 1)) + 1 by omega, List.replicate_succ, hl, Nat.sub_self, List.set_cons_zero, List.append_assoc]
  rfl
end Go.Proofs.Ytchmaojmknfbpaa.S

/- The digest of pieces behind one another: the walk over the program's 'digest'. -/
set_option linter.unusedVariables false
set_option linter.unusedSimpArgs false
namespace Go.Proofs.Ytchmaojmknfbpaa.S
open Go.RowKit Go.Proofs.YtchmaojmknfbpaaW.PrintWords Go.Proofs.YtchmaojmknfbpaaW.PrintLast Go.Proofs.YtchmaojmknfbpaaW.PrintMore Go.Proofs.Ytchmaojmknfbpaa.Base Go.Proofs.Ytchmaojmknfbpaa.Sha
attribute [local go_sem] max2_int min2_int max_two min_two max_three min_three max_four min_four

theorem out_step (s : List Nat) (i : Nat) (h : i < s.length) : outN (s.take (i + 1)) = outN (s.take i) ++ [((s.getD i 0 : Nat) : Int) / 16777216 % 256, ((s.getD i 0 : Nat) : Int) / 65536 % 256, ((s.getD i 0 : Nat) : Int) / 256 % 256, ((s.getD i 0 : Nat) : Int) % 256] := by
  rw [List.take_succ_eq_append_getElem h]
  unfold outN
  rw [List.flatMap_append]
  simp [List.getD_eq_getElem?_getD, List.getElem?_eq_getElem h]
def impl_digest.ok (ls : List (List Int)) : Bool := ls.flatten.all (fun x => decide (0 ≤ x ∧ x ≤ 255)) && decide (ls.flatten.length < 70000000000000)
def impl_digest.f (ls : List (List Int)) : Option (List Int) := if impl_digest.ok ls = true then some (sha ls.flatten) else none
end Go.Proofs.Ytchmaojmknfbpaa.S
