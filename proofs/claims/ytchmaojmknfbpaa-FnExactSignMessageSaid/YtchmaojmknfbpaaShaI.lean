/- SHA-256 as a plain function of lists of numbers, and the walks over the program's rounds, keys, blocks and digest: they come to it, for all bytes that fit. -/
import Derived.Test.YtchmaojmknfbpaaBase
import Derived.Test.YtchmaojmknfbpaaSxBits
import Derived.Test.YtchmaojmknfbpaaSxImplMixed1Y
import Derived.Laws.Tables
import Derived.Laws.CopyOwn
import Derived.Test.YtchmaojmknfbpaaSx0
import Derived.WalkSpells
import Derived.Laws.Externs
import Derived.StillTailTactics
import Derived.BigQuiet
/- SHA-256 as a plain function of lists of numbers: what the walks over the program's text and over the reference's come to. Nothing of the program stands in this text. -/
set_option linter.unusedVariables false
namespace Go.Proofs.Ytchmaojmknfbpaa.Sha
open Go.RowKit Go.Proofs.YtchmaojmknfbpaaW.PrintWords Go.Proofs.Ytchmaojmknfbpaa.Base

def rotr (n x : Nat) : Nat := x / 2 ^ n ||| x * 2 ^ (32 - n) % 4294967296
def big1 (e : Nat) : Nat := rotr 6 e ^^^ rotr 11 e ^^^ rotr 25 e
def big0 (a : Nat) : Nat := rotr 2 a ^^^ rotr 13 a ^^^ rotr 22 a
def choice (e f g : Nat) : Nat := (e &&& f) ^^^ ((4294967295 - e) &&& g)
def most (a b c : Nat) : Nat := (a &&& b) ^^^ (a &&& c) ^^^ (b &&& c)
def sml0 (x : Nat) : Nat := rotr 7 x ^^^ rotr 18 x ^^^ x / 8
def sml1 (y : Nat) : Nat := rotr 17 y ^^^ rotr 19 y ^^^ y / 1024
def t1N (e f g h w k : Nat) : Nat := (h + big1 e + choice e f g + k + w) % 4294967296
def t2N (a b c : Nat) : Nat := (big0 a + most a b c) % 4294967296
def mixN : List Nat → Nat → Nat → List Nat
  | [a, b, c, d, e, f, g, h], w, k => [(t1N e f g h w k + t2N a b c) % 4294967296, a, b, c, (d + t1N e f g h w k) % 4294967296, e, f, g]
  | _, _, _ => []

def small (s : List Nat) : Prop := ∀ x ∈ s, x < 4294967296
theorem rotr_lt (n : Nat) {x : Nat} (h : x < 4294967296) : rotr n x < 4294967296 := by
  unfold rotr
  refine Nat.or_lt_two_pow (n := 32) ?_ (Nat.mod_lt _ (by decide))
  exact Nat.lt_of_le_of_lt (Nat.div_le_self _ _) h
theorem xor_lt {x y : Nat} (hx : x < 4294967296) (hy : y < 4294967296) : x ^^^ y < 4294967296 := Nat.xor_lt_two_pow (n := 32) hx hy
theorem and_lt {x y : Nat} (hy : y < 4294967296) : x &&& y < 4294967296 := Nat.and_lt_two_pow (n := 32) x hy
theorem big1_lt {x : Nat} (h : x < 4294967296) : big1 x < 4294967296 := xor_lt (xor_lt (rotr_lt _ h) (rotr_lt _ h)) (rotr_lt _ h)
theorem big0_lt {x : Nat} (h : x < 4294967296) : big0 x < 4294967296 := xor_lt (xor_lt (rotr_lt _ h) (rotr_lt _ h)) (rotr_lt _ h)
theorem sml0_lt {x : Nat} (h : x < 4294967296) : sml0 x < 4294967296 := xor_lt (xor_lt (rotr_lt _ h) (rotr_lt _ h)) (by omega)
theorem sml1_lt {x : Nat} (h : x < 4294967296) : sml1 x < 4294967296 := xor_lt (xor_lt (rotr_lt _ h) (rotr_lt _ h)) (by omega)
theorem choice_lt {e f g : Nat} (hf : f < 4294967296) (hg : g < 4294967296) : choice e f g < 4294967296 := xor_lt (and_lt hf) (and_lt hg)
theorem most_lt {a b c : Nat} (hb : b < 4294967296) (hc : c < 4294967296) : most a b c < 4294967296 := xor_lt (xor_lt (and_lt hb) (and_lt hc)) (and_lt hc)
theorem t1N_lt (e f g h w k : Nat) : t1N e f g h w k < 4294967296 := Nat.mod_lt _ (by decide)
theorem t2N_lt (a b c : Nat) : t2N a b c < 4294967296 := Nat.mod_lt _ (by decide)
theorem eight {s : List Nat} (h : s.length = 8) : ∃ a b c d e f g h', s = [a, b, c, d, e, f, g, h'] := by
  match s, h with
  | [a, b, c, d, e, f, g, h'], _ => exact ⟨a, b, c, d, e, f, g, h', rfl⟩
theorem mixN_length {s : List Nat} (h : s.length = 8) (w k : Nat) : (mixN s w k).length = 8 := by
  obtain ⟨a, b, c, d, e, f, g, h', rfl⟩ := eight h
  rfl
theorem small_cons {x : Nat} {s : List Nat} (hx : x < 4294967296) (hs : small s) : small (x :: s) := fun y hy => by
  rcases List.mem_cons.1 hy with rfl | h
  · exact hx
  · exact hs y h
theorem small_nil : small [] := fun _ h => by cases h
theorem small_append {s t : List Nat} (hs : small s) (ht : small t) : small (s ++ t) := fun y hy => by
  rcases List.mem_append.1 hy with h | h
  · exact hs y h
  · exact ht y h
theorem small_getD {s : List Nat} (h : small s) (i : Nat) : s.getD i 0 < 4294967296 := by
  rw [List.getD_eq_getElem?_getD]
  cases e : s[i]? with
  | none => simp
  | some x => exact h x (List.mem_of_getElem? e)
theorem mixN_small {s : List Nat} (h : s.length = 8) (hs : small s) (w k : Nat) : small (mixN s w k) := by
  obtain ⟨a, b, c, d, e, f, g, h', rfl⟩ := eight h
  have hm : ∀ x : Nat, x % 4294967296 < 4294967296 := fun x => Nat.mod_lt _ (by decide)
  refine small_cons (hm _) (small_cons (hs a (by simp)) (small_cons (hs b (by simp)) (small_cons (hs c (by simp)) (small_cons (hm _) (small_cons (hs e (by simp)) (small_cons (hs f (by simp)) (small_cons (hs g (by simp)) small_nil)))))))

/-! The message's words, the rounds, the blocks. -/
def keysN : List Nat := [0x428a2f98, 0x71374491, 0xb5c0fbcf, 0xe9b5dba5, 0x3956c25b, 0x59f111f1, 0x923f82a4, 0xab1c5ed5, 0xd807aa98, 0x12835b01, 0x243185be, 0x550c7dc3, 0x72be5d74, 0x80deb1fe, 0x9bdc06a7, 0xc19bf174, 0xe49b69c1, 0xefbe4786, 0x0fc19dc6, 0x240ca1cc, 0x2de92c6f, 0x4a7484aa, 0x5cb0a9dc, 0x76f988da, 0x983e5152, 0xa831c66d, 0xb00327c8, 0xbf597fc7, 0xc6e00bf3, 0xd5a79147, 0x06ca6351, 0x14292967, 0x27b70a85, 0x2e1b2138, 0x4d2c6dfc, 0x53380d13, 0x650a7354, 0x766a0abb, 0x81c2c92e, 0x92722c85, 0xa2bfe8a1, 0xa81a664b, 0xc24b8b70, 0xc76c51a3, 0xd192e819, 0xd6990624, 0xf40e3585, 0x106aa070, 0x19a4c116, 0x1e376c08, 0x2748774c, 0x34b0bcb5, 0x391c0cb3, 0x4ed8aa4a, 0x5b9cca4f, 0x682e6ff3, 0x748f82ee, 0x78a5636f, 0x84c87814, 0x8cc70208, 0x90befffa, 0xa4506ceb, 0xbef9a3f7, 0xc67178f2]
def startN : List Nat := [0x6a09e667, 0xbb67ae85, 0x3c6ef372, 0xa54ff53a, 0x510e527f, 0x9b05688c, 0x1f83d9ab, 0x5be0cd19]
/-- A byte of the message. -/
def by8 (d : List Int) (i : Nat) : Nat := (d.getD i 0).toNat % 256
def word (d : List Int) (i : Nat) : Nat := by8 d (4 * i) * 16777216 + by8 d (4 * i + 1) * 65536 + by8 d (4 * i + 2) * 256 + by8 d (4 * i + 3)
def nextW (ws : List Nat) (i : Nat) : Nat := (sml1 (ws.getD (i - 2) 0) + ws.getD (i - 7) 0 + sml0 (ws.getD (i - 15) 0) + ws.getD (i - 16) 0) % 4294967296
def sched (d : List Int) : Nat → List Nat
  | 0 => []
  | i + 1 => sched d i ++ [if i < 16 then word d i else nextW (sched d i) i]
def rounds (ws s : List Nat) : Nat → List Nat
  | 0 => s
  | i + 1 => mixN (rounds ws s i) (ws.getD i 0) (keysN.getD i 0)
def addS (s t : List Nat) : List Nat := List.zipWith (fun x y => (x + y) % 4294967296) s t
def blockN (s : List Nat) (d : List Int) : List Nat := addS s (rounds (sched d 64) s 64)
def hashN : Nat → List Nat → List Int → List Nat
  | 0, s, _ => s
  | n + 1, s, d => hashN n (blockN s (d.take 64)) (d.drop 64)
def be8 (n : Nat) : List Int := [((n / 72057594037927936 % 256 : Nat) : Int), ((n / 281474976710656 % 256 : Nat) : Int), ((n / 1099511627776 % 256 : Nat) : Int), ((n / 4294967296 % 256 : Nat) : Int), ((n / 16777216 % 256 : Nat) : Int), ((n / 65536 % 256 : Nat) : Int), ((n / 256 % 256 : Nat) : Int), ((n % 256 : Nat) : Int)]
def fillN (n : Nat) : Nat := (119 - n % 64) % 64
def pad (l : List Int) : List Int := l ++ [128] ++ List.replicate (fillN l.length) 0 ++ be8 (l.length * 8)
def outN (s : List Nat) : List Int := s.flatMap fun x => [((x / 16777216 % 256 : Nat) : Int), ((x / 65536 % 256 : Nat) : Int), ((x / 256 % 256 : Nat) : Int), ((x % 256 : Nat) : Int)]
/-- The digest. -/
def sha (l : List Int) : List Int := outN (hashN ((pad l).length / 64) startN (pad l))

theorem by8_lt (d : List Int) (i : Nat) : by8 d i < 256 := Nat.mod_lt _ (by decide)
theorem word_lt (d : List Int) (i : Nat) : word d i < 4294967296 := by
  have h0 := by8_lt d (4 * i)
  have h1 := by8_lt d (4 * i + 1)
  have h2 := by8_lt d (4 * i + 2)
  have h3 := by8_lt d (4 * i + 3)
  unfold word
  omega
theorem sched_length (d : List Int) : ∀ i, (sched d i).length = i
  | 0 => rfl
  | i + 1 => by simp [sched, sched_length d i]
theorem sched_small (d : List Int) : ∀ i, small (sched d i)
  | 0 => small_nil
  | i + 1 => by
    refine small_append (sched_small d i) (small_cons ?_ small_nil)
    split
    · exact word_lt d i
    · exact Nat.mod_lt _ (by decide)
theorem rounds_ok {ws s : List Nat} (h : s.length = 8) (hs : small s) : ∀ i, (rounds ws s i).length = 8 ∧ small (rounds ws s i)
  | 0 => ⟨h, hs⟩
  | i + 1 => ⟨mixN_length (rounds_ok h hs i).1 _ _, mixN_small (rounds_ok h hs i).1 (rounds_ok h hs i).2 _ _⟩
theorem addS_small (s t : List Nat) : small (addS s t) := by
  intro x hx
  unfold addS at hx
  obtain ⟨i, hi, rfl⟩ := List.getElem_of_mem hx
  rw [List.getElem_zipWith]
  exact Nat.mod_lt _ (by decide)
theorem addS_length {s t : List Nat} (h : s.length = 8) (h' : t.length = 8) : (addS s t).length = 8 := by simp [addS, h, h']
theorem blockN_ok {s : List Nat} (h : s.length = 8) (hs : small s) (d : List Int) : (blockN s d).length = 8 ∧ small (blockN s d) :=
  ⟨addS_length h (rounds_ok h hs 64).1, addS_small _ _⟩
theorem hashN_ok : ∀ (n : Nat) {s : List Nat} (d : List Int), s.length = 8 → small s → (hashN n s d).length = 8 ∧ small (hashN n s d)
  | 0, s, d, h, hs => ⟨h, hs⟩
  | n + 1, s, d, h, hs => hashN_ok n (d.drop 64) (blockN_ok h hs _).1 (blockN_ok h hs _).2
theorem keysN_small : small keysN := by
  unfold small
  decide +kernel
theorem startN_small : small startN := by
  unfold small
  decide +kernel
theorem outN_length : ∀ s : List Nat, (outN s).length = 4 * s.length
  | [] => rfl
  | x :: s => by
    have := outN_length s
    unfold outN at this ⊢
    rw [List.flatMap_cons, List.length_append, this, List.length_cons]
    simp
    omega
theorem outN_byt (s : List Nat) : Byt (outN s) := by
  intro y hy
  unfold outN at hy
  obtain ⟨x, _, hx⟩ := List.mem_flatMap.1 hy
  simp only [List.mem_cons, List.not_mem_nil, or_false] at hx
  rcases hx with rfl | rfl | rfl | rfl <;> omega
theorem sha_length (l : List Int) : (sha l).length = 32 := by
  unfold sha
  rw [outN_length, (hashN_ok _ _ rfl startN_small).1]
theorem sha_byt (l : List Int) : Byt (sha l) := outN_byt _
theorem be8_length (n : Nat) : (be8 n).length = 8 := rfl
theorem pad_length (l : List Int) : (pad l).length = l.length + 1 + fillN l.length + 8 := by
  simp [pad, be8_length]
  omega
theorem pad_mod (l : List Int) : (pad l).length % 64 = 0 := by
  rw [pad_length]
  unfold fillN
  omega
theorem be8_byt (n : Nat) : Byt (be8 n) := by
  intro y hy
  simp only [be8, List.mem_cons, List.not_mem_nil, or_false] at hy
  rcases hy with rfl | rfl | rfl | rfl | rfl | rfl | rfl | rfl <;> omega
theorem pad_byt {l : List Int} (h : Byt l) : Byt (pad l) := by
  refine byt_append (byt_append (byt_append h (byt_one (by omega) (by omega))) ?_) (be8_byt _)
  intro x hx
  rw [List.eq_of_mem_replicate hx]
  omega
end Go.Proofs.Ytchmaojmknfbpaa.Sha

/- Words of 32 bits: what the program's operations on them come to in plain numbers. -/
set_option linter.unusedVariables false
namespace Go.Proofs.Ytchmaojmknfbpaa.S
open Go.RowKit Go.Proofs.YtchmaojmknfbpaaW.PrintWords Go.Proofs.YtchmaojmknfbpaaW.PrintLast Go.Proofs.YtchmaojmknfbpaaW.PrintMore Go.Proofs.Ytchmaojmknfbpaa.Base Go.Proofs.Ytchmaojmknfbpaa.Sha

theorem xor32 {x y : Nat} (hx : x < 4294967296) (hy : y < 4294967296) : Go.bits .xor .u32 (x : Int) (y : Int) = ((x ^^^ y : Nat) : Int) := by
  rw [bits_xor_eq .u32 hx hy, wrap_u32 (xor_lt hx hy)]
theorem and32 {x y : Nat} (hx : x < 4294967296) (hy : y < 4294967296) : Go.bits .and .u32 (x : Int) (y : Int) = ((x &&& y : Nat) : Int) := by
  rw [bits_and_eq .u32 hx hy, wrap_u32 (and_lt hy)]
theorem or32 {x y : Nat} (hx : x < 4294967296) (hy : y < 4294967296) : Go.bits .or .u32 (x : Int) (y : Int) = ((x ||| y : Nat) : Int) := by
  rw [bits_or_eq .u32 hx hy, wrap_u32 (Nat.or_lt_two_pow (n := 32) hx hy)]
theorem not32 {x : Nat} (hx : x < 4294967296) : Go.bits .xor .u32 IntKind.u32.max (x : Int) = ((4294967295 - x : Nat) : Int) := by
  have h : 4294967295 ^^^ x = 4294967295 - x := by
    have e := BitVec.toNat_not (x := BitVec.ofNat 32 x)
    rw [BitVec.toNat_ofNat, Nat.mod_eq_of_lt hx] at e
    have f : (BitVec.ofNat 32 4294967295 ^^^ BitVec.ofNat 32 x).toNat = 4294967295 ^^^ x := by
      rw [BitVec.toNat_xor, BitVec.toNat_ofNat, BitVec.toNat_ofNat, Nat.mod_eq_of_lt hx]
    have g : BitVec.ofNat 32 4294967295 ^^^ BitVec.ofNat 32 x = ~~~ BitVec.ofNat 32 x := BitVec.allOnes_xor
    rw [← f, g, e]
  rw [show IntKind.u32.max = ((4294967295 : Nat) : Int) from rfl, xor32 (by omega) hx, h]
theorem shl32 {x : Nat} (n : Nat) (hn : n ≤ 32) : shl .u32 (x : Int) (n : Int) = ((x * 2 ^ n % 4294967296 : Nat) : Int) := by
  unfold shl
  rw [Int.toNat_natCast, Nat.min_eq_left (by simpa [IntKind.bits] using hn)]
  have e : ((x : Int) * 2 ^ n) = ((x * 2 ^ n : Nat) : Int) := by simp
  rw [e]
  simp [IntKind.wrap, IntKind.bits, IntKind.signed]
theorem shr32 {x : Nat} (n : Nat) (hn : n ≤ 32) : shr .u32 (x : Int) (n : Int) = ((x / 2 ^ n : Nat) : Int) := by
  unfold shr
  rw [Int.toNat_natCast, Nat.min_eq_left (by simpa [IntKind.bits] using hn)]
  simp
theorem rot_eq {x : Nat} (hx : x < 4294967296) (n : Nat) (h0 : 1 ≤ n) (hn : n ≤ 31) (m : Int) (h1 : Go.bits .and .u64 (IntKind.u64.wrap m) 31 = ((32 - n : Nat) : Int)) : bits_RotateLeft32.f (x : Int) m = some ((rotr n x : Nat) : Int) := by
  unfold bits_RotateLeft32.f
  rw [h1]
  have e : IntKind.u64.wrap (32 - ((32 - n : Nat) : Int)) = (n : Int) := by
    rw [show (32 - ((32 - n : Nat) : Int)) = (n : Int) by omega]
    exact wrap_u rfl (by omega) (by simp [IntKind.bits]; omega)
  rw [e, if_pos (by omega), if_pos (by omega), shl32 _ (by omega), shr32 _ (by omega), or32 (Nat.mod_lt _ (by decide)) (Nat.lt_of_le_of_lt (Nat.div_le_self _ _) hx), Nat.or_comm]
  rfl
theorem mixed_1_eq {x : Nat} (hx : x < 4294967296) (n : Nat) (h0 : 1 ≤ n) (hn : n ≤ 31) (h1 : Go.bits .and .u64 (IntKind.u64.wrap (wrap64 (-(n : Int)))) 31 = ((32 - n : Nat) : Int)) : impl_mixed_1.f (x : Int) (n : Int) = some ((rotr n x : Nat) : Int) := by
  unfold impl_mixed_1.f
  rw [rot_eq hx n h0 hn _ h1]
  rfl
/-- An array of words. -/
def u32s (s : List Nat) : Array Value := (s.map fun x : Nat => Value.int .u32 (x : Int)).toArray
theorem mix_row {a b c d e f g h wd k : Nat} (ha : a < 4294967296) (hb : b < 4294967296) (hc : c < 4294967296) (he : e < 4294967296) (hf : f < 4294967296) (hg : g < 4294967296) :
    (#[.int .u32 (((h : Int) + Go.bits .xor .u32 (Go.bits .xor .u32 (rotr 6 e : Nat) (rotr 11 e : Nat)) (rotr 25 e : Nat) + Go.bits .xor .u32 (Go.bits .and .u32 e f) (Go.bits .and .u32 (Go.bits .xor .u32 IntKind.u32.max e) g) + k + wd + (Go.bits .xor .u32 (Go.bits .xor .u32 (rotr 2 a : Nat) (rotr 13 a : Nat)) (rotr 22 a : Nat) + Go.bits .xor .u32 (Go.bits .xor .u32 (Go.bits .and .u32 a b) (Go.bits .and .u32 a c)) (Go.bits .and .u32 b c))) % 4294967296), .int .u32 a, .int .u32 b, .int .u32 c, .int .u32 (((d : Int) + (h + Go.bits .xor .u32 (Go.bits .xor .u32 (rotr 6 e : Nat) (rotr 11 e : Nat)) (rotr 25 e : Nat) + Go.bits .xor .u32 (Go.bits .and .u32 e f) (Go.bits .and .u32 (Go.bits .xor .u32 IntKind.u32.max e) g) + k + wd)) % 4294967296), .int .u32 e, .int .u32 f, .int .u32 g] : Array Value) = u32s (mixN [a, b, c, d, e, f, g, h] wd k) := by
  rw [xor32 (rotr_lt _ he) (rotr_lt _ he), xor32 (xor_lt (rotr_lt _ he) (rotr_lt _ he)) (rotr_lt _ he), xor32 (rotr_lt _ ha) (rotr_lt _ ha), xor32 (xor_lt (rotr_lt _ ha) (rotr_lt _ ha)) (rotr_lt _ ha), and32 he hf, not32 he, and32 (by omega) hg, xor32 (and_lt hf) (and_lt hg), and32 ha hb, and32 ha hc, and32 hb hc, xor32 (and_lt hb) (and_lt hc), xor32 (xor_lt (and_lt hb) (and_lt hc)) (and_lt hc)]
  show _ = (([(t1N e f g h wd k + t2N a b c) % 4294967296, a, b, c, (d + t1N e f g h wd k) % 4294967296, e, f, g] : List Nat).map fun x : Nat => Value.int .u32 (x : Int)).toArray
  have q1 : ((h : Int) + ((rotr 6 e ^^^ rotr 11 e ^^^ rotr 25 e : Nat) : Int) + (((e &&& f) ^^^ ((4294967295 - e) &&& g) : Nat) : Int) + k + wd + (((rotr 2 a ^^^ rotr 13 a ^^^ rotr 22 a : Nat) : Int) + (((a &&& b) ^^^ (a &&& c) ^^^ (b &&& c) : Nat) : Int))) % 4294967296 = (((t1N e f g h wd k + t2N a b c) % 4294967296 : Nat) : Int) := by
    unfold t1N t2N big1 big0 choice most
    omega
  have q2 : ((d : Int) + (h + ((rotr 6 e ^^^ rotr 11 e ^^^ rotr 25 e : Nat) : Int) + (((e &&& f) ^^^ ((4294967295 - e) &&& g) : Nat) : Int) + k + wd)) % 4294967296 = (((d + t1N e f g h wd k) % 4294967296 : Nat) : Int) := by
    unfold t1N big1 choice
    omega
  rw [q1, q2]
  rfl
end Go.Proofs.Ytchmaojmknfbpaa.S

/- A whole array stored into its block, in one step of a walk: what is behind it is told by three facts. -/
set_option linter.unusedVariables false
namespace Go.Proofs.Ytchmaojmknfbpaa.Base
open Go Go.RowKit Go.Proofs.YtchmaojmknfbpaaW.PrintWords Go.Proofs.YtchmaojmknfbpaaW.PrintLast Go.Proofs.YtchmaojmknfbpaaW.PrintMore

/-- Where a walk stands still: its goal under a word, until 'stop_go'. -/
def Stop (p : Prop) : Prop := p
theorem stop_here {p : Prop} (h : Stop p) : p := h
theorem stop_go {p : Prop} (h : p) : Stop p := h
theorem row_event {P : Program} {ops : Array Oper} {rest : List Oper} {o : Oper} {a : Act} {w w0 : World} {B : Nat} {Q : Exit → Act → World → Prop} (hgd : o.guard = none) (ty : TypeId) (x y : Operand) (ho : o.op = .store ty x y)
    (g : Nat) (cells : Array Value) (hx : a.eval x = .pointer (some ⟨g, 0, none⟩)) (hy : a.eval y = .agg cells)
    (t : TypeId) (old : Array Value) (hg : w.heap[g]? = some (.cells old t (0, 0))) (hi : (P.info? ty).map (·.size) = some cells.size)
    (hold : old.size = cells.size) (h1 : cells.all (·.oneCell') = true) (hd : o.dst = none) (hb : Below B w0 w) (hB : B ≤ g)
    (h : ∀ w1 : World, w1.heap[g]? = some (.cells cells t (0, 0)) → (∀ k, k ≠ g → w1.heap[k]? = w.heap[k]?) → Below B w0 w1 → wpList P ops Q rest a w1) : wpList P ops Q (o :: rest) a w := by
  refine wpList_store_row hgd ty x y ho g cells hx hy t old hg hi hold h1 ?_
  rw [hd]
  exact h _ (setRow_heap w g old cells t (0, 0) hg) (fun k hk => setRow_other w g k cells hk) (below_setRow hb hB cells)
theorem blk_other {w w1 : World} {g k : Nat} {o : Obj} (h : w.heap[k]? = some o) (hw : ∀ k, k ≠ g → w1.heap[k]? = w.heap[k]?) (hne : k ≠ g) : w1.heap[k]? = some o := (hw k hne).trans h
end Go.Proofs.Ytchmaojmknfbpaa.Base

/- A round of a state: the walk over the program's 'mixed'. -/
set_option linter.unusedVariables false
set_option linter.unusedSimpArgs false
namespace Go.Proofs.Ytchmaojmknfbpaa.S
open Go.RowKit Go.Proofs.YtchmaojmknfbpaaW.PrintWords Go.Proofs.YtchmaojmknfbpaaW.PrintLast Go.Proofs.YtchmaojmknfbpaaW.PrintMore Go.Proofs.Ytchmaojmknfbpaa.Base Go.Proofs.Ytchmaojmknfbpaa.Sha
attribute [local go_sem] max2_int min2_int max_two min_two max_three min_three max_four min_four

theorem quiet_add {P : Program} {f : FuncId} {args : Array Value} {w : World} {n m : Nat} {v : Value} (h : Calls P f args (w.drewN (n + m)) fun e w' => e = .returned v ∧ Drawn0 (w.drewN (n + m)) w') :
    Calls P f args (w.drewN (n + m)) fun e w'' => e = .returned v ∧ ∃ q, w'' = w.drewN (n + q) :=
  h.mono fun _ _ h => ⟨h.1, by obtain ⟨q, hq⟩ := h.2.out; exact ⟨m + q, by rw [hq, World.drewN_drewN, Nat.add_assoc]⟩⟩
set_option maxHeartbeats 8000000 in
set_option maxRecDepth 100000 in
theorem impl_mixed.lit (a b c d e f g h wd k x6 x11 x25 y2 y13 y22 : Int) (w : World)
   (e6 : impl_mixed_1.f e 6 = some x6) (e11 : impl_mixed_1.f e 11 = some x11) (e25 : impl_mixed_1.f e 25 = some x25)
   (a2 : impl_mixed_1.f a 2 = some y2) (a13 : impl_mixed_1.f a 13 = some y13) (a22 : impl_mixed_1.f a 22 = some y22) :
    Calls Try.prog 120 #[.agg #[.int .u32 a, .int .u32 b, .int .u32 c, .int .u32 d, .int .u32 e, .int .u32 f, .int .u32 g, .int .u32 h], .int .u32 wd, .int .u32 k] w fun r w' => r = .returned (.agg #[.int .u32 ((h + bits .xor .u32 (bits .xor .u32 x6 x11) x25 + bits .xor .u32 (bits .and .u32 e f) (bits .and .u32 (bits .xor .u32 IntKind.u32.max e) g) + k + wd + (bits .xor .u32 (bits .xor .u32 y2 y13) y22 + bits .xor .u32 (bits .xor .u32 (bits .and .u32 a b) (bits .and .u32 a c)) (bits .and .u32 b c))) % 4294967296), .int .u32 a, .int .u32 b, .int .u32 c, .int .u32 ((d + (h + bits .xor .u32 (bits .xor .u32 x6 x11) x25 + bits .xor .u32 (bits .and .u32 e f) (bits .and .u32 (bits .xor .u32 IntKind.u32.max e) g) + k + wd)) % 4294967296), .int .u32 e, .int .u32 f, .int .u32 g]) ∧ Below w.heap.size w w' := by
  have HB := Aside0.mk (Below.refl w.heap.size w)
  have hu := Try.underlying122
  have E6 := Aside0.mk e6
  have E11 := Aside0.mk e11
  have E25 := Aside0.mk e25
  have A2 := Aside0.mk a2
  have A13 := Aside0.mk a13
  have A22 := Aside0.mk a22
  clear e6 e11 e25 a2 a13 a22
  go_enter Try.func120, Try.ntmps120
  go_upto_region 2 with (first | ((with_reducible refine gate_dst (N := 3) rfl ?_); refine box_event ?hg (N := 3) ?hd (cs := #[.int .u32 a, .int .u32 b, .int .u32 c, .int .u32 d, .int .u32 e, .int .u32 f, .int .u32 g, .int .u32 h]) (t := 122) ?hr ?_; (case hd => rfl); (case hg => rfl); (case hr => first | (go_simp; done) | (go_simp; rfl)); intro gb hg w3 hbox hb; have n0_ := Aside0.mk (below_step HB.out hb); have n1_ := Aside0.mk hbox; have n2_ := Aside0.mk ((by rw [hg]; exact below_size HB.out) : w.heap.size ≤ gb); clear HB ; have HB := n0_; have BK := n1_; have GE := n2_; clear n0_ n1_ n2_  hb hbox hg) | ((with_reducible refine gate_dst (N := 6) rfl ?_); refine box_event ?hg (N := 6) ?hd (cs := #[.int .u32 0, .int .u32 0, .int .u32 0, .int .u32 0, .int .u32 0, .int .u32 0, .int .u32 0, .int .u32 0]) (t := 122) ?hr ?_; (case hd => rfl); (case hg => rfl); (case hr => first | (go_simp; done) | (go_simp; rfl)); intro gr hg w4 hbox hb; have n0_ := Aside0.mk (below_step HB.out hb); have n1_ := Aside0.mk hbox; have n2_ := Aside0.mk ((by rw [hg]; exact below_size HB.out) : w.heap.size ≤ gr); have k0_ := Aside0.mk (blk_below BK.out hb); clear HB BK; have HB := n0_; have BR := n1_; have GR := n2_; have BK := k0_; clear n0_ n1_ n2_ k0_ hb hbox hg))
  have hc0 : w4.cell? ⟨gb, 0, none⟩ = some (.int .u32 a) := (blk_cell BK.out 0).trans rfl
  have hc1 : w4.cell? ⟨gb, 1, none⟩ = some (.int .u32 b) := (blk_cell BK.out 1).trans rfl
  have hc2 : w4.cell? ⟨gb, 2, none⟩ = some (.int .u32 c) := (blk_cell BK.out 2).trans rfl
  have hc3 : w4.cell? ⟨gb, 3, none⟩ = some (.int .u32 d) := (blk_cell BK.out 3).trans rfl
  have hc4 : w4.cell? ⟨gb, 4, none⟩ = some (.int .u32 e) := (blk_cell BK.out 4).trans rfl
  have hc5 : w4.cell? ⟨gb, 5, none⟩ = some (.int .u32 f) := (blk_cell BK.out 5).trans rfl
  have hc6 : w4.cell? ⟨gb, 6, none⟩ = some (.int .u32 g) := (blk_cell BK.out 6).trans rfl
  have hc7 : w4.cell? ⟨gb, 7, none⟩ = some (.int .u32 h) := (blk_cell BK.out 7).trans rfl
  go_quiet (fail)
  go_upto_region 3 with fail
  go_quiet ((go_at_call 121; first | exact quiet_add (impl_mixed_1.calls _ _ _ _ E6.out) | exact quiet_add (impl_mixed_1.calls _ _ _ _ E11.out) | exact quiet_add (impl_mixed_1.calls _ _ _ _ E25.out)))
  go_upto_region 4 with fail
  go_quiet ((go_at_call 121; first | exact quiet_add (impl_mixed_1.calls _ _ _ _ A2.out) | exact quiet_add (impl_mixed_1.calls _ _ _ _ A13.out) | exact quiet_add (impl_mixed_1.calls _ _ _ _ A22.out)))
  go_wp2_with (first | ((with_reducible refine gate_store (t := 122) (p := 6) (v := .tmp 89) rfl ?_); refine stop_here ?_))
  refine stop_go ?_
  refine row_event rfl 122 (.tmp 6) (.tmp 89) rfl gr _ rfl rfl 122 _ BR.out ?hi rfl ?h1 rfl (by repeat (first | (with_reducible first | exact HB.out | apply below_alloc | apply pw_below_drewN | apply below_drew1) | exact HB.out)) GR.out ?_
  case hi => kernel_rfl
  case h1 => simp [Value.oneCell']
  clear HB BR
  intro w5 br_ _ hb_
  have HB := Aside0.mk hb_
  have BR := Aside0.mk br_
  clear hb_ br_
  go_wp2
  refine bodyPost_ret (results_cell_row rfl _ _ gr 122 _ (0, 0) _ rfl BR.out Try.underlying122 rfl (by kernel_rfl)) rfl ?_
  exact ⟨rfl, HB.out⟩

theorem impl_mixed.calls (s : List Nat) (hs : s.length = 8) (hm : small s) (wd k : Nat) (w : World) :
    Calls Try.prog 120 #[.agg (u32s s), .int .u32 (wd : Int), .int .u32 (k : Int)] w fun r w' => r = .returned (.agg (u32s (mixN s wd k))) ∧ Below w.heap.size w w' := by
  obtain ⟨a, b, c, d, e, f, g, h, rfl⟩ := eight hs
  have ha : a < 4294967296 := hm a (by simp)
  have hb' : b < 4294967296 := hm b (by simp)
  have hc : c < 4294967296 := hm c (by simp)
  have he : e < 4294967296 := hm e (by simp)
  have hf : f < 4294967296 := hm f (by simp)
  have hg : g < 4294967296 := hm g (by simp)
  refine (impl_mixed.lit a b c d e f g h wd k (rotr 6 e) (rotr 11 e) (rotr 25 e) (rotr 2 a) (rotr 13 a) (rotr 22 a) w (mixed_1_eq he 6 (by decide) (by decide) (by decide +kernel)) (mixed_1_eq he 11 (by decide) (by decide) (by decide +kernel)) (mixed_1_eq he 25 (by decide) (by decide) (by decide +kernel)) (mixed_1_eq ha 2 (by decide) (by decide) (by decide +kernel)) (mixed_1_eq ha 13 (by decide) (by decide) (by decide +kernel)) (mixed_1_eq ha 22 (by decide) (by decide) (by decide +kernel))).mono fun r w' h => ?_
  obtain ⟨rfl, hb⟩ := h
  exact ⟨by rw [mix_row ha hb' hc he hf hg], hb⟩

end Go.Proofs.Ytchmaojmknfbpaa.S

/- The rounds' keys. -/
set_option linter.unusedVariables false
set_option linter.unusedSimpArgs false
namespace Go.Proofs.Ytchmaojmknfbpaa.S
open Go.RowKit Go.Proofs.YtchmaojmknfbpaaW.PrintWords Go.Proofs.YtchmaojmknfbpaaW.PrintLast Go.Proofs.YtchmaojmknfbpaaW.PrintMore Go.Proofs.Ytchmaojmknfbpaa.Base Go.Proofs.Ytchmaojmknfbpaa.Sha
attribute [local go_sem] max2_int min2_int max_two min_two max_three min_three max_four min_four

set_option maxHeartbeats 8000000 in
set_option maxRecDepth 100000 in
theorem impl_keys.calls (w : World) :
    Calls Try.prog 119 #[] w fun r w' => r = .returned (.agg (u32s keysN)) ∧ Below w.heap.size w w' := by
  have HB := Aside0.mk (Below.refl w.heap.size w)
  have hu := Try.underlying125
  go_enter Try.func119, Try.ntmps119
  go_wp2_with (first | ((with_reducible refine gate_dst (N := 0) rfl ?_); refine box_event ?hg (N := 0) ?hd (cs := #[.int .u32 0, .int .u32 0, .int .u32 0, .int .u32 0, .int .u32 0, .int .u32 0, .int .u32 0, .int .u32 0, .int .u32 0, .int .u32 0, .int .u32 0, .int .u32 0, .int .u32 0, .int .u32 0, .int .u32 0, .int .u32 0, .int .u32 0, .int .u32 0, .int .u32 0, .int .u32 0, .int .u32 0, .int .u32 0, .int .u32 0, .int .u32 0, .int .u32 0, .int .u32 0, .int .u32 0, .int .u32 0, .int .u32 0, .int .u32 0, .int .u32 0, .int .u32 0, .int .u32 0, .int .u32 0, .int .u32 0, .int .u32 0, .int .u32 0, .int .u32 0, .int .u32 0, .int .u32 0, .int .u32 0, .int .u32 0, .int .u32 0, .int .u32 0, .int .u32 0, .int .u32 0, .int .u32 0, .int .u32 0, .int .u32 0, .int .u32 0, .int .u32 0, .int .u32 0, .int .u32 0, .int .u32 0, .int .u32 0, .int .u32 0, .int .u32 0, .int .u32 0, .int .u32 0, .int .u32 0, .int .u32 0, .int .u32 0, .int .u32 0, .int .u32 0]) (t := 125) ?hr ?_; (case hd => rfl); (case hg => rfl); (case hr => first | (go_simp; done) | (go_simp; rfl)); intro gr hg w4 hbox hb; have n0_ := Aside0.mk (below_step HB.out hb); have n1_ := Aside0.mk hbox; have n2_ := Aside0.mk ((by rw [hg]; exact below_size HB.out) : w.heap.size ≤ gr); clear HB ; have HB := n0_; have BR := n1_; have GR := n2_; clear n0_ n1_ n2_  hb hbox hg) | ((with_reducible refine gate_store (t := 125) (p := 0) (v := .tmp 1) rfl ?_); refine stop_here ?_))
  refine stop_go ?_
  refine row_event rfl 125 (.tmp 0) (.tmp 1) rfl gr _ rfl rfl 125 _ BR.out ?hi rfl ?h1 rfl (by repeat (first | (with_reducible first | exact HB.out | apply below_alloc | apply pw_below_drewN | apply below_drew1) | exact HB.out)) GR.out ?_
  case hi => kernel_rfl
  case h1 => kernel_rfl
  clear HB BR
  intro w5 br_ _ hb_
  have HB := Aside0.mk hb_
  have BR := Aside0.mk br_
  clear hb_ br_
  go_wp2
  refine bodyPost_ret (results_cell_row rfl _ _ gr 125 _ (0, 0) _ rfl BR.out Try.underlying125 rfl (by kernel_rfl)) rfl ?_
  exact ⟨rfl, HB.out⟩


end Go.Proofs.Ytchmaojmknfbpaa.S

/- A block added to a state: the walk over the program's 'block'. -/
set_option linter.unusedVariables false
set_option linter.unusedSimpArgs false
namespace Go.Proofs.Ytchmaojmknfbpaa.S
open Go.RowKit Go.Proofs.YtchmaojmknfbpaaW.PrintWords Go.Proofs.YtchmaojmknfbpaaW.PrintLast Go.Proofs.YtchmaojmknfbpaaW.PrintMore Go.Proofs.Ytchmaojmknfbpaa.Base Go.Proofs.Ytchmaojmknfbpaa.Sha
attribute [local go_sem] max2_int min2_int max_two min_two max_three min_three max_four min_four

theorem ne_of_lt_eq {a b c : Nat} (h : a < c) (e : b = c) : a ≠ b := by omega
/-- The arrays of a block's walk: the state, the result's place, the message's words. -/
structure BlkInv (w0 w : World) (g2 g4 g5 : Nat) (s ws : List Nat) : Prop where
  st : w.heap[g2]? = some (.cells (u32s s) 122 (0, 0))
  re : w.heap[g4]? = some (.cells (u32s (List.replicate 8 0)) 122 (0, 0))
  wd : w.heap[g5]? = some (.cells (u32s ws) 125 (0, 0))
  bl : Below w0.heap.size w0 w
theorem u32s_size (l : List Nat) : (u32s l).size = l.length := by simp [u32s]
theorem u32s_set (l : List Nat) (i v : Nat) : (u32s l).setIfInBounds i (.int .u32 (v : Int)) = u32s (l.set i v) := by
  apply Array.toList_inj.1
  simp [u32s, List.map_set]
theorem u32s_get (l : List Nat) (i : Nat) (h : i < l.length) : (u32s l)[i]? = some (.int .u32 ((l.getD i 0 : Nat) : Int)) := by
  simp [u32s, List.getD_eq_getElem?_getD, List.getElem?_eq_getElem h]
theorem BlkInv.put {w0 w : World} {g2 g4 g5 : Nat} {s ws : List Nat} (h : BlkInv w0 w g2 g4 g5 s ws) (n2 : g2 ≠ g5) (n4 : g4 ≠ g5) (hg : w0.heap.size ≤ g5) (i v : Nat) : BlkInv w0 (w.setCell ⟨g5, i, none⟩ (.int .u32 (v : Int))) g2 g4 g5 s (ws.set i v) :=
  ⟨blk_far h.st n2 _, blk_far h.re n4 _, by rw [blk_set h.wd i, u32s_set], below_set h.bl hg⟩
theorem BlkInv.drew {w0 w : World} {g2 g4 g5 : Nat} {s ws : List Nat} (h : BlkInv w0 w g2 g4 g5 s ws) : BlkInv w0 w.drew g2 g4 g5 s ws := ⟨h.st, h.re, h.wd, below_drew1 h.bl⟩
theorem BlkInv.drewN {w0 w : World} {g2 g4 g5 : Nat} {s ws : List Nat} (h : BlkInv w0 w g2 g4 g5 s ws) (n : Nat) : BlkInv w0 (w.drewN n) g2 g4 g5 s ws := ⟨h.st, h.re, h.wd, pw_below_drewN h.bl _⟩
theorem BlkInv.cell {w0 w : World} {g2 g4 g5 : Nat} {s ws : List Nat} (h : BlkInv w0 w g2 g4 g5 s ws) (i : Nat) (hi : i < ws.length) : w.cell? ⟨g5, i, none⟩ = some (.int .u32 ((ws.getD i 0 : Nat) : Int)) := (blk_cell h.wd i).trans (u32s_get ws i hi)
theorem sml0_eq {x : Nat} (h : x < 4294967296) : Go.bits .xor .u32 (Go.bits .xor .u32 ((rotr 7 x : Nat) : Int) ((rotr 18 x : Nat) : Int)) ((x : Int) / 8) = ((sml0 x : Nat) : Int) := by
  rw [show (x : Int) / 8 = ((x / 8 : Nat) : Int) by omega, xor32 (rotr_lt _ h) (rotr_lt _ h), xor32 (xor_lt (rotr_lt _ h) (rotr_lt _ h)) (by omega)]
  rfl
theorem sml1_eq {x : Nat} (h : x < 4294967296) : Go.bits .xor .u32 (Go.bits .xor .u32 ((rotr 17 x : Nat) : Int) ((rotr 19 x : Nat) : Int)) ((x : Int) / 1024) = ((sml1 x : Nat) : Int) := by
  rw [show (x : Int) / 1024 = ((x / 1024 : Nat) : Int) by omega, xor32 (rotr_lt _ h) (rotr_lt _ h), xor32 (xor_lt (rotr_lt _ h) (rotr_lt _ h)) (by omega)]
  rfl
theorem wrap_mod (n : Int) : IntKind.u32.wrap n = n % 4294967296 := by simp [IntKind.wrap, IntKind.bits, IntKind.signed]
/-- The sum, place by place. -/
def part (s t : List Nat) (i : Nat) : List Nat := (addS s t).take i ++ t.drop i
theorem part_set {s t : List Nat} (hs : s.length = 8) (ht : t.length = 8) (i : Nat) (hi : i < 8) : (part s t i).set i ((s.getD i 0 + t.getD i 0) % 4294967296) = part s t (i + 1) := by
  have hl : ((addS s t).take i).length = i := by simp [addS, hs, ht]; omega
  have ha : i < (addS s t).length := by simp [addS, hs, ht]; omega
  unfold part
  rw [List.set_append_right _ _ (by omega), hl, Nat.sub_self, List.drop_eq_getElem_cons (by omega), List.set_cons_zero, List.take_succ_eq_append_getElem ha, List.append_assoc]
  simp [addS, List.getD_eq_getElem?_getD, List.getElem?_eq_getElem (show i < s.length by omega), List.getElem?_eq_getElem (show i < t.length by omega)]
theorem part_get {s t : List Nat} (hs : s.length = 8) (ht : t.length = 8) (i : Nat) (hi : i < 8) : (part s t i).getD i 0 = t.getD i 0 := by
  have hl : ((addS s t).take i).length = i := by simp [addS, hs, ht]; omega
  unfold part
  rw [List.getD_eq_getElem?_getD, List.getElem?_append_right (by omega), hl, Nat.sub_self, List.getElem?_drop, ← List.getD_eq_getElem?_getD]
  rfl
theorem part_length {s t : List Nat} (hs : s.length = 8) (ht : t.length = 8) (i : Nat) (hi : i ≤ 8) : (part s t i).length = 8 := by
  simp [part, addS, hs, ht]
  omega
theorem part_all {s t : List Nat} (hs : s.length = 8) (ht : t.length = 8) : part s t 8 = addS s t := by
  unfold part
  rw [List.take_of_length_le (by simp [addS, hs, ht]), List.drop_of_length_le (by omega), List.append_nil]
theorem add_eq (x y : Nat) : IntKind.u32.wrap ((x : Int) + (y : Int)) = (((y + x) % 4294967296 : Nat) : Int) := by
  rw [wrap_mod]
  omega
theorem part_zero (s t : List Nat) : part s t 0 = t := by simp [part]
theorem next_eq (l : List Nat) (i x2 x7 x15 x16 : Nat) (h : nextW l i = (sml1 x2 + x7 + sml0 x15 + x16) % 4294967296) : IntKind.u32.wrap (IntKind.u32.wrap (IntKind.u32.wrap (((sml1 x2 : Nat) : Int) + (x7 : Int)) + ((sml0 x15 : Nat) : Int)) + (x16 : Int)) = ((nextW l i : Nat) : Int) := by
  rw [h, wrap_mod, wrap_mod, wrap_mod]
  omega
theorem cwp_named {P : Program} {c : Code} {Q : Exit → Act → World → Prop} {a : Act} {W : World} (h : ∀ wz, W = wz → Code.wp P c Q a wz) : Code.wp P c Q a W := h W rfl
theorem u32s_one (l : List Nat) : (u32s l).all (·.oneCell') = true := by
  rw [Array.all_eq_true_iff_forall_mem]
  intro v hv
  simp [u32s] at hv
  obtain ⟨x, _, rfl⟩ := hv
  rfl
theorem run_index_u32s {P : Program} {w : World} {t e : TypeId} {n : Nat} (l : List Nat) (i : Nat) (h : P.underlying t = some (.array n e)) (hsz : ∀ w, (sizeOf e).run P w = .ok 1 w) (hag : ∀ w, (isAgg e).run P w = .ok false w) (hl : l.length = n) (hi : i < n) : (Instr.index t (.agg (u32s l)) (.int .i64 (i : Int))).run P w = .ok (.int .u32 ((l.getD i 0 : Nat) : Int)) w := by
  have hn : (0 ≤ (i : Int) ∧ (i : Int) < (n : Int)) := by omega
  have hg := u32s_get l i (by omega)
  simp [Instr.index, run_underlying h, asIntOf, hn, hg, go_sem, hsz, hag, hi]
theorem still_load_row {P : Program} {ops : Array Oper} {o : Oper} {a : Act} {w : World} {K : Act → Prop} (hgd : o.guard = none) (ty : TypeId) (x : Operand) (ho : o.op = .load ty x)
    (g : Nat) (hx : a.eval x = .pointer (some ⟨g, 0, none⟩)) (t : TypeId) (cs : Array Value) (fr : Nat × Nat) (d : TypeDesc) (hg : w.heap[g]? = some (.cells cs t fr))
    (hu : P.underlying ty = some d) (hd : (match d with | .struct _ | .array _ _ => true | _ => false) = true) (hi : (P.info? ty).map (·.size) = some cs.size)
    (h : K (a.put o.dst (.agg cs))) : if Region.wanted o (yielded ops a.tmps) then o.still P a w K else K (a.put o.dst undef) := by
  have hw : Region.wanted o (yielded ops a.tmps) = true := by unfold Region.wanted; rw [hgd]
  rw [if_pos hw]
  unfold Oper.still execOp
  simp only [ho, hx, Instr.loadAt, Instr.sureAddr, Sem.run_bind, Sem.run_pure, Result.andThen_ok, run_loadVar_row w g t ty cs fr d hg hu hd hi]
  exact ⟨rfl, h⟩
structure BlkInv2 (w0 w : World) (g2 g4 g5 g11 : Nat) (s ws r : List Nat) : Prop where
  is : BlkInv w0 w g2 g4 g5 s ws
  ou : w.heap[g11]? = some (.cells (u32s r) 122 (0, 0))
theorem BlkInv.below {w0 w w1 : World} {g2 g4 g5 : Nat} {s ws : List Nat} (h : BlkInv w0 w g2 g4 g5 s ws) (hb : Below w.heap.size w w1) : BlkInv w0 w1 g2 g4 g5 s ws :=
  ⟨blk_below h.st hb, blk_below h.re hb, blk_below h.wd hb, below_step h.bl hb⟩
theorem BlkInv.other {w0 w w1 : World} {g2 g4 g5 g : Nat} {s ws : List Nat} (h : BlkInv w0 w g2 g4 g5 s ws) (ho : ∀ k, k ≠ g → w1.heap[k]? = w.heap[k]?) (hb : Below w0.heap.size w0 w1) (n2 : g2 ≠ g) (n4 : g4 ≠ g) (n5 : g5 ≠ g) : BlkInv w0 w1 g2 g4 g5 s ws :=
  ⟨blk_other h.st ho n2, blk_other h.re ho n4, blk_other h.wd ho n5, hb⟩
theorem BlkInv2.below {w0 w w1 : World} {g2 g4 g5 g11 : Nat} {s ws r : List Nat} (h : BlkInv2 w0 w g2 g4 g5 g11 s ws r) (hb : Below w.heap.size w w1) : BlkInv2 w0 w1 g2 g4 g5 g11 s ws r :=
  ⟨h.is.below hb, blk_below h.ou hb⟩
theorem BlkInv2.drew {w0 w : World} {g2 g4 g5 g11 : Nat} {s ws r : List Nat} (h : BlkInv2 w0 w g2 g4 g5 g11 s ws r) : BlkInv2 w0 w.drew g2 g4 g5 g11 s ws r := ⟨h.is.drew, h.ou⟩
theorem set_fill {l : List Nat} {n i : Nat} (hl : l.length = i) (h : i < n) (v : Nat) : (l ++ List.replicate (n - i) 0).set i v = (l ++ [v]) ++ List.replicate (n - (i + 1)) 0 := by
  rw [List.set_append_right i v (by omega), show n - i = (n - (i + 1)) + 1 by omega, List.replicate_succ, hl, Nat.sub_self, List.set_cons_zero, List.append_assoc]
  rfl
theorem or_place {x y k : Nat} (h : y < 2 ^ k) : x * 2 ^ k ||| y = x * 2 ^ k + y := by
  have := Nat.shiftLeft_add_eq_or_of_lt (i := k) (b := y) h x
  rw [Nat.shiftLeft_eq] at this
  exact this.symm
theorem rd_by8 {l : List Int} (hy : Byt l) (j : Nat) (hj : j < l.length) : rd l (j : Int) = ((by8 l j : Nat) : Int) := by
  rw [rd_nat l j hj]
  obtain ⟨h0, h1⟩ := hy l[j] (List.getElem_mem _)
  unfold by8
  rw [List.getD_eq_getElem?_getD, List.getElem?_eq_getElem hj]
  simp
  omega
theorem word_eq {l : List Int} (hy : Byt l) (i : Nat) (hl : 4 * i + 3 < l.length) (p0 p1 p2 p3 : Int) (h0 : p0 = 4 * (i : Int)) (h1 : p1 = 4 * (i : Int) + 1) (h2 : p2 = 4 * (i : Int) + 2) (h3 : p3 = 4 * (i : Int) + 3) :
    Go.bits .or .u32 (Go.bits .or .u32 (Go.bits .or .u32 (IntKind.u32.wrap (IntKind.u32.wrap (rd l p0) * 16777216)) (IntKind.u32.wrap (IntKind.u32.wrap (rd l p1) * 65536))) (IntKind.u32.wrap (IntKind.u32.wrap (rd l p2) * 256))) (IntKind.u32.wrap (rd l p3)) = ((word l i : Nat) : Int) := by
  rw [show p0 = ((4 * i : Nat) : Int) by omega, show p1 = ((4 * i + 1 : Nat) : Int) by omega, show p2 = ((4 * i + 2 : Nat) : Int) by omega, show p3 = ((4 * i + 3 : Nat) : Int) by omega]
  rw [rd_by8 hy _ (by omega), rd_by8 hy _ (by omega), rd_by8 hy _ (by omega), rd_by8 hy _ (by omega)]
  unfold word
  have b0 := by8_lt l (4 * i)
  have b1 := by8_lt l (4 * i + 1)
  have b2 := by8_lt l (4 * i + 2)
  have b3 := by8_lt l (4 * i + 3)
  generalize by8 l (4 * i) = x0 at *
  generalize by8 l (4 * i + 1) = x1 at *
  generalize by8 l (4 * i + 2) = x2 at *
  generalize by8 l (4 * i + 3) = x3 at *
  rw [wrap_u32 (n := x0) (by omega), wrap_u32 (n := x1) (by omega), wrap_u32 (n := x2) (by omega), wrap_u32 (n := x3) (by omega)]
  rw [show (x0 : Int) * 16777216 = ((x0 * 2 ^ 24 : Nat) : Int) by omega, show (x1 : Int) * 65536 = ((x1 * 2 ^ 16 : Nat) : Int) by omega, show (x2 : Int) * 256 = ((x2 * 2 ^ 8 : Nat) : Int) by omega]
  rw [wrap_u32 (n := x0 * 2 ^ 24) (by omega), wrap_u32 (n := x1 * 2 ^ 16) (by omega), wrap_u32 (n := x2 * 2 ^ 8) (by omega)]
  rw [or32 (by omega) (by omega), or_place (k := 24) (by omega), show x0 * 2 ^ 24 + x1 * 2 ^ 16 = (x0 * 256 + x1) * 2 ^ 16 by omega]
  rw [or32 (by omega) (by omega), or_place (k := 16) (by omega), show (x0 * 256 + x1) * 2 ^ 16 + x2 * 2 ^ 8 = (x0 * 65536 + x1 * 256 + x2) * 2 ^ 8 by omega]
  rw [or32 (by omega) (by omega), or_place (k := 8) (by omega)]
theorem BlkInv2.put {w0 w : World} {g2 g4 g5 g11 : Nat} {s ws r : List Nat} (h : BlkInv2 w0 w g2 g4 g5 g11 s ws r) (n2 : g2 ≠ g11) (n4 : g4 ≠ g11) (n5 : g5 ≠ g11) (hg : w0.heap.size ≤ g11) (i v : Nat) : BlkInv2 w0 (w.setCell ⟨g11, i, none⟩ (.int .u32 (v : Int))) g2 g4 g5 g11 s ws (r.set i v) :=
  ⟨⟨blk_far h.is.st n2 _, blk_far h.is.re n4 _, blk_far h.is.wd n5 _, below_set h.is.bl hg⟩, by rw [blk_set h.ou i, u32s_set]⟩
set_option maxHeartbeats 8000000 in
set_option maxRecDepth 100000 in
theorem impl_block.calls (s : List Nat) (hs : s.length = 8) (hm : small s) (A1 : Option Addr) (c1 : Nat) (l1 : List Int) (w : World) (hr1 : Kd.C (Kd.int .u8) w A1 l1.length l1) (hc1 : l1.length ≤ c1) (hl : l1.length = 64) (hby : Byt l1) :
    Calls Try.prog 116 #[.agg (u32s s), .slice A1 l1.length c1] w fun r w' => r = .returned (.agg (u32s (blockN s l1))) ∧ Below w.heap.size w w' := by
  have HB := Aside0.mk (Below.refl w.heap.size w)
  have hu := Try.underlying122
  have hu2 := Try.underlying125
  have HR := Aside0.mk hr1
  have HC := Aside0.mk hc1
  have HL := Aside0.mk hl
  have HY := Aside0.mk hby
  have HS := Aside0.mk hs
  have HM := Aside0.mk hm
  clear hr1 hc1 hl hby hs hm
  go_enter Try.func116, Try.ntmps116
  go_wp2_with (first | ((with_reducible refine gate_dst (N := 2) rfl ?_); refine box_event ?hg (N := 2) ?hd (cs := u32s s) (t := 122) ?hr ?_; (case hd => rfl); (case hg => rfl); (case hr => first | (go_simp; done) | (go_simp; rfl)); intro g2 hg w3 hbox hb; have n0_ := Aside0.mk (below_step HB.out hb); have n1_ := Aside0.mk hbox; have n2_ := Aside0.mk ((by rw [hg]; exact below_size HB.out) : w.heap.size ≤ g2); clear HB ; have HB := n0_; have B2 := n1_; have G2 := n2_; clear n0_ n1_ n2_  hb hbox hg) | ((with_reducible refine gate_dst (N := 4) rfl ?_); refine box_event ?hg (N := 4) ?hd (cs := #[.int .u32 0, .int .u32 0, .int .u32 0, .int .u32 0, .int .u32 0, .int .u32 0, .int .u32 0, .int .u32 0]) (t := 122) ?hr ?_; (case hd => rfl); (case hg => rfl); (case hr => first | (go_simp; done) | (go_simp; rfl)); intro g4 hg w4 hbox hb; have n0_ := Aside0.mk (below_step HB.out hb); have n1_ := Aside0.mk hbox; have n2_ := Aside0.mk ((by rw [hg]; exact below_size HB.out) : w.heap.size ≤ g4); have N24 := Aside0.mk (ne_of_lt_eq (blk_lt B2.out) hg); have k0_ := Aside0.mk (blk_below B2.out hb); clear HB B2; have HB := n0_; have B4 := n1_; have G4 := n2_; have B2 := k0_; clear n0_ n1_ n2_ k0_ hb hbox hg) | ((with_reducible refine gate_dst (N := 5) rfl ?_); refine box_event ?hg (N := 5) ?hd (cs := #[.int .u32 0, .int .u32 0, .int .u32 0, .int .u32 0, .int .u32 0, .int .u32 0, .int .u32 0, .int .u32 0, .int .u32 0, .int .u32 0, .int .u32 0, .int .u32 0, .int .u32 0, .int .u32 0, .int .u32 0, .int .u32 0, .int .u32 0, .int .u32 0, .int .u32 0, .int .u32 0, .int .u32 0, .int .u32 0, .int .u32 0, .int .u32 0, .int .u32 0, .int .u32 0, .int .u32 0, .int .u32 0, .int .u32 0, .int .u32 0, .int .u32 0, .int .u32 0, .int .u32 0, .int .u32 0, .int .u32 0, .int .u32 0, .int .u32 0, .int .u32 0, .int .u32 0, .int .u32 0, .int .u32 0, .int .u32 0, .int .u32 0, .int .u32 0, .int .u32 0, .int .u32 0, .int .u32 0, .int .u32 0, .int .u32 0, .int .u32 0, .int .u32 0, .int .u32 0, .int .u32 0, .int .u32 0, .int .u32 0, .int .u32 0, .int .u32 0, .int .u32 0, .int .u32 0, .int .u32 0, .int .u32 0, .int .u32 0, .int .u32 0, .int .u32 0]) (t := 125) ?hr ?_; (case hd => rfl); (case hg => rfl); (case hr => first | (go_simp; done) | (go_simp; rfl)); intro g5 hg w5 hbox hb; have n0_ := Aside0.mk (below_step HB.out hb); have n1_ := Aside0.mk hbox; have n2_ := Aside0.mk ((by rw [hg]; exact below_size HB.out) : w.heap.size ≤ g5); have N25 := Aside0.mk (ne_of_lt_eq (blk_lt B2.out) hg); have N45 := Aside0.mk (ne_of_lt_eq (blk_lt B4.out) hg); have k0_ := Aside0.mk (blk_below B2.out hb); have k1_ := Aside0.mk (blk_below B4.out hb); clear HB B2 B4; have HB := n0_; have B5 := n1_; have G5 := n2_; have B2 := k0_; have B4 := k1_; clear n0_ n1_ n2_ k0_ k1_ hb hbox hg) | ((with_reducible refine gate_store (t := 125) (p := 5) (v := .tmp 15) rfl ?_); refine stop_here ?_))
  refine stop_go ?_
  refine row_event rfl 125 (.tmp 5) (.tmp 15) rfl g5 _ rfl rfl 125 _ B5.out ?hi rfl ?h1 rfl HB.out G5.out ?_
  case hi => kernel_rfl
  case h1 => kernel_rfl
  intro w6 b5 ho hb
  have HV := Aside0.mk (BlkInv.mk (blk_other B2.out ho N25.out) (blk_other B4.out ho N45.out) (show w6.heap[g5]? = some (.cells (u32s (List.replicate 64 0)) 125 (0, 0)) from b5) hb)
  clear HB B2 B4 B5 b5 ho hb
  go_wp2
  go_loopg [16] 64 (fun kq v16 w' => ∃ i : Nat, v16 = .int .i64 (i : Int) ∧ Aside0 (i + kq = 64) ∧ Aside0 (BlkInv w w' g2 g4 g5 s (sched l1 i ++ List.replicate (64 - i) 0)))
  case atStart => exact ⟨0, rfl, ⟨rfl⟩, HV⟩
  case round =>
    clear HV w6
    obtain ⟨i, rfl, HI, HV⟩ := hrel
    cases gk with
    | zero =>
      have e := HI.out
      have c1_ : decide ((i : Int) < 64) = false := decide_eq_false (by omega)
      obtain rfl : i = 64 := by omega
      rw [show sched l1 64 ++ List.replicate (64 - 64) 0 = sched l1 64 from List.append_nil _] at HV
      have HV := Aside0.mk HV.out
      clear e HI
      have hld : ∀ w1 : World, w1.heap[g2]? = some (.cells (u32s s) 122 (0, 0)) → True := fun _ _ => trivial
      go_wp2_with (first | ((with_reducible refine gate_dst (N := 96) rfl ?_); refine stop_here ?_))
      refine stop_go ?_
      refine wpList_load_row rfl 122 _ rfl g2 rfl _ _ _ _ HV.out.st Try.underlying122 rfl ?hi ?_
      case hi => rw [u32s_size, HS.out]; kernel_rfl
      go_wp2_with (first | ((with_reducible refine gate_dst (N := 11) rfl ?_); refine stop_here ?_))
      refine stop_go ?_
      refine box_event (N := 11) (cs := #[.int .u32 0, .int .u32 0, .int .u32 0, .int .u32 0, .int .u32 0, .int .u32 0, .int .u32 0, .int .u32 0]) (t := 122) ?hgb rfl ?hrb ?_
      case hgb => rfl
      case hrb => first | (go_simp; done) | (go_simp; rfl)
      intro g11 hg wb hbox hb
      have N2 := Aside0.mk (ne_of_lt_eq (blk_lt HV.out.st) hg)
      have N4 := Aside0.mk (ne_of_lt_eq (blk_lt HV.out.re) hg)
      have N5 := Aside0.mk (ne_of_lt_eq (blk_lt HV.out.wd) hg)
      have G11 := Aside0.mk (show w.heap.size ≤ g11 by rw [hg]; exact below_size HV.out.bl)
      have HV2 := Aside0.mk (HV.out.below hb)
      have BO := Aside0.mk hbox
      clear HV hb hbox hg
      go_wp2_with (first | ((with_reducible refine gate_store (t := 122) (p := 11) (v := .tmp 96) rfl ?_); refine stop_here ?_))
      refine stop_go ?_
      refine row_event rfl 122 (.tmp 11) (.tmp 96) rfl g11 (u32s s) rfl rfl 122 _ BO.out ?hi ?hold (u32s_one s) rfl HV2.out.bl G11.out ?_
      case hi => rw [u32s_size, HS.out]; kernel_rfl
      case hold => rw [u32s_size, HS.out]; rfl
      intro w7 bo ho hb7
      have HW := Aside0.mk (BlkInv2.mk (HV2.out.other ho hb7 N2.out N4.out N5.out) bo)
      clear HV2 BO bo ho hb7
      go_wp2_with (first | (go_at_call 119; refine (impl_keys.calls _).mono ?_; rintro e wk ⟨rfl, hbk⟩; have HW2 := Aside0.mk (HW.out.below hbk); clear HW hbk))
      have HW3 := Aside0.mk (show BlkInv2 w wk g2 g4 g5 g11 s (sched l1 64) (rounds (sched l1 64) s 0) from HW2.out)
      clear HW2
      go_loopg [98] 64 (fun kq v98 w' => ∃ i : Nat, v98 = .int .i64 (i : Int) ∧ Aside0 (i + kq = 64) ∧ Aside0 (BlkInv2 w w' g2 g4 g5 g11 s (sched l1 64) (rounds (sched l1 64) s i)))
      case atStart => exact ⟨0, rfl, ⟨rfl⟩, HW3⟩
      case round =>
        clear HW3
        obtain ⟨i, rfl, HI, HW⟩ := hrel
        cases gk with
        | zero =>
          have e := HI.out
          have c1_ : decide ((i : Int) < 64) = false := decide_eq_false (by omega)
          obtain rfl : i = 64 := by omega
          have HW4 := Aside0.mk (show BlkInv2 w wr g2 g4 g5 g11 s (sched l1 64) (part s (rounds (sched l1 64) s 64) 0) by rw [part_zero]; exact HW.out)
          clear e HI HW
          have HT := Aside0.mk (rounds_ok (ws := sched l1 64) HS.out HM.out 64)
          have HE := Aside0.mk (show blockN s l1 = addS s (rounds (sched l1 64) s 64) from rfl)
          generalize rounds (sched l1 64) s 64 = t at *
          go_wp2
          go_loopg [109] 8 (fun kq v109 w' => ∃ i : Nat, v109 = .int .i64 (i : Int) ∧ Aside0 (i + kq = 8) ∧ Aside0 (BlkInv2 w w' g2 g4 g5 g11 s (sched l1 64) (part s t i)))
          case atStart => exact ⟨0, rfl, ⟨rfl⟩, HW4⟩
          case round =>
            clear HW4
            obtain ⟨i, rfl, HI, HW⟩ := hrel
            cases gk with
            | zero =>
              have e := HI.out
              have c1_ : decide ((i : Int) < 8) = false := decide_eq_false (by omega)
              obtain rfl : i = 8 := by omega
              have HW5 := Aside0.mk (show BlkInv2 w wr g2 g4 g5 g11 s (sched l1 64) (blockN s l1) by rw [HE.out, ← part_all HS.out HT.out.1]; exact HW.out)
              have HLn := Aside0.mk (show (blockN s l1).length = 8 by rw [HE.out, ← part_all HS.out HT.out.1]; exact part_length HS.out HT.out.1 8 (by omega))
              clear e HI HW HE
              go_wp2_with (first | ((with_reducible refine gate_dst (N := 121) rfl ?_); refine stop_here ?_))
              refine stop_go ?_
              refine wpList_load_row rfl 122 _ rfl g11 rfl _ _ _ _ HW5.out.ou Try.underlying122 rfl ?hi ?_
              case hi => rw [u32s_size, HLn.out]; kernel_rfl
              go_wp2_with (first | ((with_reducible refine gate_store (t := 122) (p := 4) (v := .tmp 121) rfl ?_); refine stop_here ?_))
              refine stop_go ?_
              refine row_event rfl 122 (.tmp 4) (.tmp 121) rfl g4 (u32s (blockN s l1)) rfl rfl 122 _ HW5.out.is.re ?hi ?hold (u32s_one _) rfl HW5.out.is.bl G4.out ?_
              case hi => rw [u32s_size, HLn.out]; kernel_rfl
              case hold => rw [u32s_size, u32s_size, HLn.out]; rfl
              intro w9 bo ho hb9
              have BR := Aside0.mk bo
              have HB := Aside0.mk hb9
              clear HW5 bo ho hb9
              go_wp2
              refine bodyPost_ret (results_cell_row rfl _ _ g4 122 _ (0, 0) _ rfl BR.out Try.underlying122 rfl (by rw [u32s_size, HLn.out]; kernel_rfl)) rfl ?_
              exact ⟨rfl, HB.out⟩
            | succ k1 =>
              have e := HI.out
              have c1_ : decide ((i : Int) < 8) = true := decide_eq_true (by omega)
              have hlt_ : ((i : Int) < 8) = True := eq_true (by omega)
              have hi0_ : (0 ≤ (i : Int)) = True := eq_true (by omega)
              have hc2 : wr.cell? ⟨g2, i, none⟩ = some (.int .u32 ((s.getD i 0 : Nat) : Int)) := (blk_cell HW.out.is.st i).trans (u32s_get s i (by rw [HS.out]; omega))
              have hc11 : wr.cell? ⟨g11, i, none⟩ = some (.int .u32 ((t.getD i 0 : Nat) : Int)) := by
                have h := (blk_cell HW.out.ou i).trans (u32s_get _ i (by rw [part_length HS.out HT.out.1 i (by omega)]; omega))
                rw [part_get HS.out HT.out.1 i (by omega)] at h
                exact h
              have hwd := Aside0.mk (add_eq (t.getD i 0) (s.getD i 0))
              have HW6 := Aside0.mk HW.out.drew
              have hc12 : wr.drew.cell? ⟨g11, i, none⟩ = some (.int .u32 ((t.getD i 0 : Nat) : Int)) := hc11
              have hfz := blk_frozen HW6.out.ou i
              have HP := Aside0.mk (part_set HS.out HT.out.1 i (by omega))
              generalize s.getD i 0 = y at *
              generalize t.getD i 0 = x at *
              clear e
              go_upto_region 21 with fail
              go_still_tail 8, (by kernel_rfl)
              change wpList _ _ _ _ _ wr.drew
              generalize wr.drew = wy at *
              clear HW hc2 hc11
              go_wp2_with (first | ((with_reducible refine gate_store (t := 121) (p := 119) (v := .tmp 118) rfl ?_); refine stop_here ?_))
              refine stop_go ?_
              refine store_event (w1 := wy.setCell ⟨g11, i, none⟩ (.int .u32 (((y + x) % 4294967296 : Nat) : Int))) rfl rfl rfl ?hr ?_
              case hr =>
                rw [← hwd.out]
                go_simp
              intro w8 hw8
              have HW7 := Aside0.mk (HW6.out.put N2.out N4.out N5.out G11.out i ((y + x) % 4294967296))
              rw [← hw8, HP.out] at HW7
              clear hw8 HW6 hc12 hfz hwd HP
              go_wp2
              go_roundg k1
              case measure => have := HI.out; omega
              case rel => exact ⟨i + 1, by first | rfl | (rw [w64s (by have := HI.out; omega)]), ⟨by have := HI.out; omega⟩, HW7⟩
        | succ k1 =>
          have e := HI.out
          have c1_ : decide ((i : Int) < 64) = true := decide_eq_true (by omega)
          have hidx : ∀ w : World, (Instr.index 125 (.agg (u32s keysN)) (.int .i64 (i : Int))).run Try.prog w = .ok (.int .u32 ((keysN.getD i 0 : Nat) : Int)) w := fun w => run_index_u32s keysN i hu2 (fun _ => by kernel_rfl) (fun _ => by kernel_rfl) rfl (by omega)
          have hlt_ : ((i : Int) < 64) = True := eq_true (by omega)
          have hi0_ : (0 ≤ (i : Int)) = True := eq_true (by omega)
          have hcw := HW.out.is.cell i (by rw [sched_length]; omega)
          clear e
          go_upto_region 16 with fail
          refine cwp_named ?_
          intro wz hz
          have HWz := Aside0.mk (show BlkInv2 w wz g2 g4 g5 g11 s (sched l1 64) (rounds (sched l1 64) s i) by rw [← hz]; exact HW.out)
          replace hcw : wz.cell? ⟨g5, i, none⟩ = some (.int .u32 (((sched l1 64).getD i 0 : Nat) : Int)) := by rw [← hz]; exact hcw
          clear hz HW
          have hro := Aside0.mk (rounds_ok (ws := sched l1 64) HS.out HM.out i)
          refine wp_region_still_tail 5 (by kernel_rfl) (by kernel_rfl) ?_
          simp only [List.take_succ_cons, List.take_zero, List.drop_succ_cons, List.drop_zero]
          refine wpStill_step (fun K hK => ?_)
          refine still_load_row rfl 122 _ rfl g11 rfl _ _ _ _ HWz.out.ou Try.underlying122 rfl ?hi ?_
          case hi => rw [u32s_size, hro.out.1]; kernel_rfl
          refine hK _ ?_
          clear hK K
          simp only [Act.put, List.setIfInBounds_toArray, List.set_cons_zero, List.set_cons_succ]
          repeat still_step
          refine wpStill_nil ?_
          have HWy := Aside0.mk HWz.out.drew
          change wpList _ _ _ _ _ wz.drew
          generalize wz.drew = wy at *
          clear HWz hcw
          go_wp2_with (first | (go_at_call 120; refine (impl_mixed.calls _ hro.out.1 hro.out.2 _ _ _).mono ?_; rintro e wm ⟨rfl, hbm⟩; have HWm := Aside0.mk (HWy.out.below hbm); clear HWy hbm) | ((with_reducible refine gate_store (t := 122) (p := 11) (v := .tmp 107) rfl ?_); refine stop_here ?_))
          refine stop_go ?_
          refine row_event rfl 122 (.tmp 11) (.tmp 107) rfl g11 (u32s (rounds (sched l1 64) s (i + 1))) rfl rfl 122 _ HWm.out.ou ?hi ?hold (u32s_one _) rfl HWm.out.is.bl G11.out ?_
          case hi => rw [u32s_size, (rounds_ok HS.out HM.out (i + 1)).1]; kernel_rfl
          case hold => rw [u32s_size, u32s_size, (rounds_ok HS.out HM.out (i + 1)).1, hro.out.1]
          intro w9 bo ho hb9
          have HW9 := Aside0.mk (BlkInv2.mk (HWm.out.is.other ho hb9 N2.out N4.out N5.out) bo)
          clear HWm bo ho hb9
          go_wp2
          go_roundg k1
          case measure => have := HI.out; omega
          case rel => exact ⟨i + 1, by first | rfl | (rw [w64s (by have := HI.out; omega)]), ⟨by have := HI.out; omega⟩, HW9⟩
    | succ k1 =>
      have e := HI.out
      have c1_ : decide ((i : Int) < 64) = true := decide_eq_true (by omega)
      by_cases h16 : i < 16
      · have c2_ : decide ((i : Int) < 16) = true := decide_eq_true (by omega)
        have h16_ := Aside0.mk h16
        have hlt : i < 64 := by omega
        obtain ⟨p0, hp0⟩ : ∃ p : Int, p = 4 * (i : Int) := ⟨_, rfl⟩
        obtain ⟨p1, hp1⟩ : ∃ p : Int, p = 4 * (i : Int) + 1 := ⟨_, rfl⟩
        obtain ⟨p2, hp2⟩ : ∃ p : Int, p = 4 * (i : Int) + 2 := ⟨_, rfl⟩
        obtain ⟨p3, hp3⟩ : ∃ p : Int, p = 4 * (i : Int) + 3 := ⟨_, rfl⟩
        have hw0 : IntKind.i64.wrap (4 * (i : Int)) = p0 := by rw [hp0]; exact wrap_s (by omega) (by omega)
        have hw1 : IntKind.i64.wrap (p0 + 1) = p1 := by rw [hp0, hp1]; exact wrap_s (by omega) (by omega)
        have hw2 : IntKind.i64.wrap (p0 + 2) = p2 := by rw [hp0, hp2]; exact wrap_s (by omega) (by omega)
        have hw3 : IntKind.i64.wrap (p0 + 3) = p3 := by rw [hp0, hp3]; exact wrap_s (by omega) (by omega)
        have HRc := Kd.C_below HR.out HV.out.bl
        have hl_ := HL.out
        have q0 : 0 ≤ p0 := by omega
        have q1 : 0 ≤ p1 := by omega
        have q2 : 0 ≤ p2 := by omega
        have q3 : 0 ≤ p3 := by omega
        have r0 : p0 < (l1.length : Int) := by omega
        have r1 : p1 < (l1.length : Int) := by omega
        have r2 : p2 < (l1.length : Int) := by omega
        have r3 : p3 < (l1.length : Int) := by omega
        obtain ⟨ad, e0, hx0⟩ := Kd.at_int HRc p0 q0 r0
        cases e0
        obtain ⟨ad1, e1, hx1⟩ := Kd.at_int HRc p1 q1 r1
        cases e1
        obtain ⟨ad2, e2, hx2⟩ := Kd.at_int HRc p2 q2 r2
        cases e2
        obtain ⟨ad3, e3, hx3⟩ := Kd.at_int HRc p3 q3 r3
        cases e3
        replace q0 := eq_true q0
        replace q1 := eq_true q1
        replace q2 := eq_true q2
        replace q3 := eq_true q3
        replace r0 := eq_true r0
        replace r1 := eq_true r1
        replace r2 := eq_true r2
        replace r3 := eq_true r3
        have hp_ := Aside0.mk (And.intro hp0 (And.intro hp1 (And.intro hp2 hp3)))
        have hlt_ : ((i : Int) < 64) = True := eq_true (by omega)
        have hi0_ : (0 ≤ (i : Int)) = True := eq_true (by omega)
        have HL := Aside0.mk hl_
        clear h16 e hp0 hp1 hp2 hp3 HRc hl_
        go_upto_region 6 with fail
        have HV2 := Aside0.mk HV.out.drew
        have hcs := HV2.out.cell i (by have := sched_length l1 i; simp; omega)
        have hfz := blk_frozen HV2.out.wd i
        have hwd := Aside0.mk (word_eq HY.out i (by have := HL.out; have := h16_.out; omega) p0 p1 p2 p3 hp_.out.1 hp_.out.2.1 hp_.out.2.2.1 hp_.out.2.2.2)
        go_still_tail 35, (by kernel_rfl)
        change wpList _ _ _ _ _ wr.drew
        generalize wr.drew = wz at *
        clear HV hx0 hx1 hx2 hx3
        go_wp2_with (first | ((with_reducible refine gate_store (t := 121) (p := 55) (v := .tmp 54) rfl ?_); refine stop_here ?_))
        refine stop_go ?_
        refine store_event (w1 := wz.setCell ⟨g5, i, none⟩ (.int .u32 ((word l1 i : Nat) : Int))) rfl rfl rfl ?hr ?_
        case hr =>
          rw [← hwd.out]
          go_simp
        intro w8 hw8
        have HV3 := Aside0.mk (HV2.out.put N25.out N45.out G5.out i (word l1 i))
        rw [set_fill (sched_length l1 i) (by have := HI.out; omega)] at HV3
        rw [← hw8] at HV3
        clear hw8 HV2 hcs hfz hwd
        go_wp2
        go_roundg k1
        case measure => have := HI.out; omega
        case rel => exact ⟨i + 1, by first | rfl | (rw [w64s (by have := HI.out; omega)]), ⟨by have := HI.out; omega⟩, by rw [show sched l1 (i + 1) = sched l1 i ++ [word l1 i] from by simp [sched, h16_.out]]; exact HV3⟩
      · have c2_ : decide ((i : Int) < 16) = false := decide_eq_false (by omega)
        have h16_ := Aside0.mk h16
        obtain ⟨j2, hj2⟩ : ∃ j, i = j + 2 := ⟨i - 2, by omega⟩
        obtain ⟨j7, hj7⟩ : ∃ j, i = j + 7 := ⟨i - 7, by omega⟩
        obtain ⟨j15, hj15⟩ : ∃ j, i = j + 15 := ⟨i - 15, by omega⟩
        obtain ⟨j16, hj16⟩ : ∃ j, i = j + 16 := ⟨i - 16, by omega⟩
        have hw2 : IntKind.i64.wrap ((i : Int) - 2) = (j2 : Int) := by rw [show (i : Int) - 2 = (j2 : Int) by omega]; exact wrap_s (by omega) (by omega)
        have hw7 : IntKind.i64.wrap ((i : Int) - 7) = (j7 : Int) := by rw [show (i : Int) - 7 = (j7 : Int) by omega]; exact wrap_s (by omega) (by omega)
        have hw15 : IntKind.i64.wrap ((i : Int) - 15) = (j15 : Int) := by rw [show (i : Int) - 15 = (j15 : Int) by omega]; exact wrap_s (by omega) (by omega)
        have hw16 : IntKind.i64.wrap ((i : Int) - 16) = (j16 : Int) := by rw [show (i : Int) - 16 = (j16 : Int) by omega]; exact wrap_s (by omega) (by omega)
        have hb2 : ((j2 : Int) < 64) = True := eq_true (by omega)
        have hb7 : ((j7 : Int) < 64) = True := eq_true (by omega)
        have hb15 : ((j15 : Int) < 64) = True := eq_true (by omega)
        have hb16 : ((j16 : Int) < 64) = True := eq_true (by omega)
        have hlt_ : ((i : Int) < 64) = True := eq_true (by omega)
        have hi0_ : (0 ≤ (i : Int)) = True := eq_true (by omega)
        have hlen := sched_length l1 i
        have hsm := sched_small l1 i
        have cell : ∀ j, j < i → ∃ x : Nat, (sched l1 i).getD j 0 = x ∧ x < 4294967296 ∧ wr.cell? ⟨g5, j, none⟩ = some (.int .u32 (x : Int)) := fun j hj => ⟨_, rfl, small_getD hsm j, by
          have h := HV.out.cell j (by simp; omega)
          rw [List.getD_eq_getElem?_getD, List.getElem?_append_left (by omega), ← List.getD_eq_getElem?_getD] at h
          exact h⟩
        obtain ⟨x2, ex2, lx2, hc2⟩ := cell j2 (by omega)
        obtain ⟨x7, ex7, lx7, hc7⟩ := cell j7 (by omega)
        obtain ⟨x15, ex15, lx15, hc15⟩ := cell j15 (by omega)
        obtain ⟨x16, ex16, lx16, hc16⟩ := cell j16 (by omega)
        have R7 := Aside0.mk (rot_eq lx15 7 (by decide) (by decide) (-7) (by decide +kernel))
        have R18 := Aside0.mk (rot_eq lx15 18 (by decide) (by decide) (-18) (by decide +kernel))
        have R17 := Aside0.mk (rot_eq lx2 17 (by decide) (by decide) (-17) (by decide +kernel))
        have R19 := Aside0.mk (rot_eq lx2 19 (by decide) (by decide) (-19) (by decide +kernel))
        have hq_ := Aside0.mk (show nextW (sched l1 i) i = (sml1 x2 + x7 + sml0 x15 + x16) % 4294967296 by
          unfold nextW
          rw [show i - 2 = j2 by omega, show i - 7 = j7 by omega, show i - 15 = j15 by omega, show i - 16 = j16 by omega, ex2, ex7, ex15, ex16])
        have hk_ := Aside0.mk (And.intro lx2 (And.intro lx7 (And.intro lx15 lx16)))
        clear h16 e cell hlen hsm ex2 ex7 ex15 ex16 lx2 lx7 lx15 lx16 hj2 hj7 hj15 hj16
        go_upto_region 7 with fail
        go_quiet (fail)
        go_upto_region 10 with (first | (go_at_call 118; (first | with_reducible refine (bits_RotateLeft32.calls _ _ _ _ R7.out).mono ?_ | with_reducible refine (bits_RotateLeft32.calls _ _ _ _ R18.out).mono ?_ | with_reducible refine (bits_RotateLeft32.calls _ _ _ _ R17.out).mono ?_ | with_reducible refine (bits_RotateLeft32.calls _ _ _ _ R19.out).mono ?_); rintro e w' ⟨rfl, ⟨nd, rfl⟩⟩))
        rw [sml0_eq hk_.out.2.2.1, sml1_eq hk_.out.1]
        refine cwp_named ?_
        intro wz hz
        have HVz := Aside0.mk (show BlkInv w wz g2 g4 g5 s (sched l1 i ++ List.replicate (64 - i) 0) by rw [← hz]; exact HV.out.drewN _)
        replace hc7 : wz.cell? ⟨g5, j7, none⟩ = some (.int .u32 (x7 : Int)) := by rw [← hz]; exact hc7
        replace hc16 : wz.cell? ⟨g5, j16, none⟩ = some (.int .u32 (x16 : Int)) := by rw [← hz]; exact hc16
        clear hz hc2 hc15 HV
        have HV2 := Aside0.mk HVz.out.drew
        have hcs := HV2.out.cell i (by have := sched_length l1 i; have := HI.out; simp; omega)
        have hfz := blk_frozen HV2.out.wd i
        have hwd := Aside0.mk (next_eq (sched l1 i) i x2 x7 x15 x16 hq_.out)
        go_still_tail 15, (by kernel_rfl)
        change wpList _ _ _ _ _ wz.drew
        generalize wz.drew = wy at *
        clear HVz hc7 hc16
        go_wp2_with (first | ((with_reducible refine gate_store (t := 121) (p := 94) (v := .tmp 93) rfl ?_); refine stop_here ?_))
        refine stop_go ?_
        refine store_event (w1 := wy.setCell ⟨g5, i, none⟩ (.int .u32 ((nextW (sched l1 i) i : Nat) : Int))) rfl rfl rfl ?hr ?_
        case hr =>
          rw [← hwd.out]
          go_simp
        intro w8 hw8
        have HV3 := Aside0.mk (HV2.out.put N25.out N45.out G5.out i (nextW (sched l1 i) i))
        rw [set_fill (sched_length l1 i) (by have := HI.out; omega)] at HV3
        rw [← hw8] at HV3
        clear hw8 HV2 hcs hfz hwd
        go_wp2
        go_roundg k1
        case measure => have := HI.out; omega
        case rel => exact ⟨i + 1, by first | rfl | (rw [w64s (by have := HI.out; omega)]), ⟨by have := HI.out; omega⟩, by rw [show sched l1 (i + 1) = sched l1 i ++ [nextW (sched l1 i) i] from by simp [sched, h16_.out]]; exact HV3⟩


end Go.Proofs.Ytchmaojmknfbpaa.S

/- The digest of pieces behind one another: the walk over the program's 'digest'. -/
set_option linter.unusedVariables false
set_option linter.unusedSimpArgs false
namespace Go.Proofs.Ytchmaojmknfbpaa.S
open Go.RowKit Go.Proofs.YtchmaojmknfbpaaW.PrintWords Go.Proofs.YtchmaojmknfbpaaW.PrintLast Go.Proofs.YtchmaojmknfbpaaW.PrintMore Go.Proofs.Ytchmaojmknfbpaa.Base Go.Proofs.Ytchmaojmknfbpaa.Sha
attribute [local go_sem] max2_int min2_int max_two min_two max_three min_three max_four min_four

theorem impl_block.calls64 (s : List Nat) (hs : s.length = 8) (hm : small s) (A1 : Option Addr) (c1 : Nat) (l1 : List Int) (w : World) (hr1 : Kd.C (Kd.int .u8) w A1 l1.length l1) (hc1 : l1.length ≤ c1) (hl : l1.length = 64) (hby : Byt l1) :
    Calls Try.prog 116 #[.agg (u32s s), .slice A1 64 c1] w fun r w' => r = .returned (.agg (u32s (blockN s l1))) ∧ Below w.heap.size w w' := by
  have h := impl_block.calls s hs hm A1 c1 l1 w hr1 hc1 hl hby
  rw [hl] at h
  exact h
theorem C_new {k : IntKind} (xs : List Int) (W : World) (e : TypeId) (h : xs.length ≤ 9223372036854775807) : (Kd.int k).C (W.alloc (.cells (xs.map (Value.int k)).toArray e)) (some ⟨W.heap.size, 0, none⟩) xs.length xs := by
  refine ⟨rfl, h, fun hp => ⟨⟨W.heap.size, 0, none⟩, rfl, fun j p hj => ⟨[.int k p], rfl, rfl, fun i u hu => ?_⟩⟩⟩
  cases i with
  | zero =>
    have e1 : (.int k p : Value) = u := by simpa using hu
    have e2 : (⟨W.heap.size, 0, none⟩ : Addr).add (j * 1 + 0) = ⟨W.heap.size, j, none⟩ := by unfold Addr.add; split <;> simp_all
    show World.cell? _ ((⟨W.heap.size, 0, none⟩ : Addr).add (j * 1 + 0)) = some u
    rw [e2, blk_cell (blk_new W _) j, ← e1]
    simp [hj]
  | succ i => simp at hu
theorem out_step (s : List Nat) (i : Nat) (h : i < s.length) : outN (s.take (i + 1)) = outN (s.take i) ++ [((s.getD i 0 : Nat) : Int) / 16777216 % 256, ((s.getD i 0 : Nat) : Int) / 65536 % 256, ((s.getD i 0 : Nat) : Int) / 256 % 256, ((s.getD i 0 : Nat) : Int) % 256] := by
  rw [List.take_succ_eq_append_getElem h]
  unfold outN
  rw [List.flatMap_append]
  simp [List.getD_eq_getElem?_getD, List.getElem?_eq_getElem h]
theorem rd_row (l : List (List Int)) (i : Nat) (h : i < l.length) : rd_L1 l (i : Int) = l[i] := by
  unfold rd_L1
  simp [List.getD_eq_getElem?_getD, List.getElem?_eq_getElem h]
theorem flat_step (l : List (List Int)) (i : Nat) (h : i < l.length) : (l.take (i + 1)).flatten = (l.take i).flatten ++ l[i] := by
  rw [List.take_succ_eq_append_getElem h, List.flatten_append]
  simp
theorem flat_le (l : List (List Int)) (i : Nat) : (l.take i).flatten.length ≤ l.flatten.length := by
  have h := congrArg (fun l : List (List Int) => l.flatten.length) (List.take_append_drop i l)
  simp only [List.flatten_append, List.length_append] at h
  omega
def impl_digest.ok (ls : List (List Int)) : Bool := ls.flatten.all (fun x => decide (0 ≤ x ∧ x ≤ 255)) && decide (ls.flatten.length < 70000000000000)
def impl_digest.f (ls : List (List Int)) : Option (List Int) := if impl_digest.ok ls = true then some (sha ls.flatten) else none
set_option maxHeartbeats 80000000 in
set_option maxRecDepth 100000 in
theorem impl_digest.calls (A0 : Option Addr) (c0 : Nat) (l0 : List (List Int)) (r : List Int) (w : World) (hr0 : Kd.C (Kd.slice 5 (Kd.int .u8)) w A0 l0.length l0) (hc0 : l0.length ≤ c0) (h : impl_digest.f l0 = some r) :
    Calls Try.prog 106 #[.slice A0 l0.length c0] w fun e w' => ∃ v0_ : Value, e = .returned (v0_) ∧ Kd.R (Kd.int .u8) 5 w' w.heap.size (fun _ => True) v0_ r ∧ Below w.heap.size w w' := by
  have HR0 := Aside0.mk hr0
  have HC0 := Aside0.mk hc0
  have HN := Aside0.mk hr0.2.1
  clear hr0 hc0
  have HB := Aside0.mk (Below.refl w.heap.size w)
  unfold impl_digest.f at h
  by_cases hk : impl_digest.ok l0 = true
  · rw [if_pos hk] at h
    obtain rfl := Option.some.inj h
    clear h
    unfold impl_digest.ok at hk
    rw [Bool.and_eq_true] at hk
    have HY := Aside0.mk (show Byt l0.flatten from fun x hx => of_decide_eq_true (List.all_eq_true.1 hk.1 x hx))
    have HL := Aside0.mk (of_decide_eq_true hk.2)
    clear hk
    go_enter Try.func106, Try.ntmps106
    go_wp2_with (first | ((with_reducible refine gate_dst (N := 12) rfl ?_); refine Kd.R_lit (Kd.int .u8) _ 5 ?hg (N := 12) ?hd (xs := ([] : List Int)) (inner := []) (ok := fun _ => True) (okp := fun _ => True) ?hr ?hp (fun _ hk => hk) trivial (Below.refl _ _) (Nat.le_refl _) (by simp) ?_; (case hd => rfl); (case hg => rfl); (case hr => first | (go_simp; done) | (go_simp; rfl)); (case hp => exact (Reps.none _ _)); intro v12 w2 ho_ hb hg_ hnew_; clear hg_ hnew_; have n0_ := Aside0.mk (Kd.R_lower ho_ (below_size (by repeat (first | (with_reducible first | exact HB.out | apply below_alloc | apply pw_below_drewN | apply below_drew1) | exact HB.out)))); have n1_ := Aside0.mk (below_step (by repeat (first | (with_reducible first | exact HB.out | apply below_alloc | apply pw_below_drewN | apply below_drew1) | exact HB.out)) hb); clear HB; have HO := n0_; have HB := n1_; clear n0_ n1_ hb ho_))
    go_loopg [3, 15] l0.length (fun kq v3 v15 w' => ∃ i : Nat, v15 = .int .i64 (i : Int) ∧ Aside0 (i + kq = l0.length) ∧ Aside0 (Kd.R (Kd.int .u8) 5 w' w.heap.size (fun _ => True) v3 (l0.take i).flatten) ∧ Aside0 (Below w.heap.size w w'))
    case atStart => exact ⟨0, rfl, ⟨by omega⟩, HO, HB⟩
    case round =>
      clear HO HB
      obtain ⟨i, rfl, HI, HO, HB⟩ := hrel
      cases gk with
      | zero =>
        have e := HI.out
        have c1_ : decide ((i : Int) < (l0.length : Int)) = false := decide_eq_false (by omega)
        obtain rfl : i = l0.length := by omega
        have h_ := HO.out
        rw [List.take_length] at h_
        have HO2 := Aside0.mk h_
        clear h_
        clear HO e HI
        obtain ⟨d, hd⟩ : ∃ d, d = l0.flatten := ⟨_, rfl⟩
        rw [← hd] at HO2 HY HL
        have HD := Aside0.mk hd
        have hL := HL.out
        obtain ⟨n8, hn8⟩ : ∃ n, n = d.length * 8 := ⟨_, rfl⟩
        have hu1 : IntKind.u64.wrap (d.length : Int) = (d.length : Int) := wrap_u rfl (by omega) (by simp [IntKind.bits]; omega)
        have hu2 : IntKind.u64.wrap ((d.length : Int) * 8) = (n8 : Int) := by rw [show (d.length : Int) * 8 = (n8 : Int) by omega]; exact wrap_u rfl (by omega) (by simp [IntKind.bits]; omega)
        have HN8 := Aside0.mk hn8
        have LM := Aside0.mk (show d.length < 140737488355328 by omega)
        clear hd hL hn8
        obtain ⟨Ao, co, eo⟩ := Kd.R_slice HO2.out
        subst eo
        go_wp2_with (first | ((with_reducible refine gate_builtin (b := .append) (xs := #[.tmp 27, .tmp 28]) rfl ?_); at_builtin; refine Kd.R_append (Kd.int .u8) (w0 := w) w.heap.size rfl (.tmp 27) (.tmp 28) 22 5 (.int .u8 0) 1 rfl Try.underlying22 info5 rfl (by decide) (by omega) _ d 128 [.int .u8 128] (fun _ => True) (fun _ => False) rfl rfl ?aP (fun _ hk => hk.elim) ?aF ?aO ?aB ?aS ?aL ?_; (case aP => exact rfl); (case aB => exact (by repeat (first | (with_reducible first | exact HB.out | apply below_alloc | apply pw_below_drewN | apply below_drew1) | exact HB.out))); (case aF => exact (fun _ _ => trivial)); (case aO => exact (by (with_reducible repeat (first | apply Kd.R_alloc | apply Kd.R_drewN | apply Kd.R_drew)); exact HO2.out)); (case aS => exact (below_size (by repeat (first | (with_reducible first | exact HB.out | apply below_alloc | apply pw_below_drewN | apply below_drew1) | exact HB.out)))); (case aL => have := LM.out; omega); intro v29 w5 ho_ hb hg hat; have n0_ := Aside0.mk hb; have n1_ := Aside0.mk ho_; clear HB HO2; have HB := n0_; have HO2 := n1_; clear n0_ n1_ ho_ hb hg hat))
        go_loopg [3] (fillN d.length) (fun kq v3 w' => ∃ j : Nat, Aside0 (j + kq = fillN d.length) ∧ Aside0 (Kd.R (Kd.int .u8) 5 w' w.heap.size (fun _ => True) v3 (d ++ [128] ++ List.replicate j 0)) ∧ Aside0 (Below w.heap.size w w'))
        case atStart => exact ⟨0, ⟨by omega⟩, ⟨by rw [List.replicate_zero, List.append_nil]; exact HO2.out⟩, HB⟩
        case round =>
          clear HO2 HB
          obtain ⟨j, HJ, HO, HB⟩ := hrel
          obtain ⟨x, hx⟩ : ∃ x, x = d ++ [128] ++ List.replicate j (0 : Int) := ⟨_, rfl⟩
          have hxl : x.length = d.length + 1 + j := by rw [hx]; simp; omega
          have hxs : x ++ [0] = d ++ [128] ++ List.replicate (j + 1) (0 : Int) := by rw [hx, List.replicate_succ', List.append_assoc (d ++ [128])]
          rw [← hx] at HO
          have HX := Aside0.mk (And.intro hx (And.intro hxl hxs))
          clear hx hxl hxs
          obtain ⟨Ao, co, eo⟩ := Kd.R_slice HO.out
          subst eo
          cases gk with
          | zero =>
            have hm : (x.length : Int) % 64 = 56 := by have := HJ.out; have := HX.out.2.1; unfold fillN at *; omega
            have c8b0 : (((x.length : Int) % 64) == 56) = true := beq_iff_eq.mpr hm
            have c8b1 : (((x.length : Int) % 64) != 56) = false := bne_eq_false_iff_eq.mpr hm
            clear hm
            have hx8 := Aside0.mk (show x = d ++ [128] ++ List.replicate (fillN d.length) 0 by rw [HX.out.1, show j = fillN d.length by have := HJ.out; omega])
            have hxn := Aside0.mk (show x.length = d.length + 1 + fillN d.length by rw [HX.out.2.1, show j = fillN d.length by have := HJ.out; omega])
            clear HX HJ
            go_wp2
            clear c8b0 c8b1
            go_loopg [3, 7] 8 (fun kq v3 v7 w' => ∃ (q : Nat) (z : Int), v7 = .int .i64 z ∧ Aside0 (z = 56 - 8 * (q : Int)) ∧ Aside0 (q + kq = 8) ∧ Aside0 (Kd.R (Kd.int .u8) 5 w' w.heap.size (fun _ => True) v3 (x ++ (be8 n8).take q)) ∧ Aside0 (Below w.heap.size w w'))
            case atStart => exact ⟨0, 56, rfl, ⟨rfl⟩, ⟨rfl⟩, ⟨by rw [List.take_zero, List.append_nil]; exact HO.out⟩, HB⟩
            case round =>
              clear HO HB
              obtain ⟨q, z, rfl, HZ, HJ, HO, HB⟩ := hrel
              obtain ⟨Ao, co, eo⟩ := Kd.R_slice HO.out
              subst eo
              cases gk with
              | zero =>
                have e := HJ.out
                have hz := HZ.out
                obtain rfl : q = 8 := by omega
                obtain rfl : z = -8 := by omega
                clear HJ HZ e hz
                rw [List.take_of_length_le (show (be8 n8).length ≤ 8 from Nat.le_refl 8)] at HO
                have HM := Aside0.mk (show x ++ be8 n8 = pad d by rw [hx8.out, HN8.out]; rfl)
                rw [HM.out] at HO
                have hpl : (x ++ List.take 8 (be8 n8)).length = (pad d).length := by rw [List.take_of_length_le (show (be8 n8).length ≤ 8 from Nat.le_refl 8), HM.out]
                rw [hpl]
                have HPM := Aside0.mk (pad_mod d)
                have HPY := Aside0.mk (pad_byt HY.out)
                have HPS := Aside0.mk (show sha l0.flatten = outN (hashN ((pad d).length / 64) startN (pad d)) by rw [← HD.out]; rfl)
                have HC := Aside0.mk (Kd.R_reads' HO.out).2.2
                have HCc := Aside0.mk (Kd.R_reads' HO.out).2.1
                have HMx := Aside0.mk HC.out.2.1
                generalize pad d = m at *
                clear HO HM hpl hx8 hxn HN8 HY HL HD LM
                go_wp2_with (first | ((with_reducible refine gate_dst (N := 8) rfl ?_); refine stop_here ?_))
                refine stop_go ?_
                refine box_event (N := 8) (cs := #[.int .u32 0, .int .u32 0, .int .u32 0, .int .u32 0, .int .u32 0, .int .u32 0, .int .u32 0, .int .u32 0]) (t := 122) ?hgb rfl ?hrb ?_
                case hgb => rfl
                case hrb => first | (go_simp; done) | (go_simp; rfl)
                intro g8 hg wb hbox hb
                have G8 := Aside0.mk (show wr.heap.size ≤ g8 by rw [hg]; exact Nat.le_refl _)
                have BO := Aside0.mk hbox
                have HB8 := Aside0.mk hb
                clear hb hbox hg
                go_wp2_with (first | ((with_reducible refine gate_store (t := 122) (p := 8) (v := .tmp 48) rfl ?_); refine stop_here ?_))
                refine stop_go ?_
                refine row_event rfl 122 (.tmp 8) (.tmp 48) rfl g8 (u32s startN) rfl rfl 122 _ BO.out ?hi rfl (u32s_one _) rfl HB8.out G8.out ?_
                case hi => kernel_rfl
                intro w7 bo ho hb7
                have BS := Aside0.mk bo
                have HB7 := Aside0.mk hb7
                clear HB8 BO bo ho hb7
                go_wp2
                go_loopg [3] (m.length / 64) (fun kq v3 w' => ∃ (A : Option Addr) (c : Nat) (d : List Int) (s : List Nat), v3 = .slice A d.length c ∧ Aside0 (d.length = 64 * kq) ∧ Aside0 (hashN kq s d = hashN (m.length / 64) startN m) ∧ Aside0 (s.length = 8 ∧ small s) ∧ Aside0 (Byt d) ∧ Aside0 (d.length ≤ c) ∧ Aside0 (Kd.C (Kd.int .u8) wr A d.length d) ∧ Aside0 (w'.heap[g8]? = some (.cells (u32s s) 122 (0, 0))) ∧ Aside0 (Below wr.heap.size wr w'))
                case atStart => exact ⟨Ao, co, m, startN, rfl, ⟨by have := HPM.out; omega⟩, ⟨rfl⟩, ⟨rfl, startN_small⟩, HPY, HCc, HC, BS, HB7⟩
                case round =>
                  clear BS HB7 HC HCc HPY
                  obtain ⟨A, c, d, s, rfl, HJ, HH, HS, HY, HCc, HC, BS, HB7⟩ := hrel
                  cases gk with
                  | zero =>
                    have e := HJ.out
                    obtain rfl : d = [] := List.eq_nil_of_length_eq_zero (by omega)
                    have HF := Aside0.mk (show hashN (m.length / 64) startN m = s from HH.out.symm)
                    clear HJ HH e HCc HC HY
                    replace HB := Aside0.mk (below_step HB.out HB7.out)
                    clear HB7
                    go_wp2_with (first | ((with_reducible refine gate_dst (N := 58) rfl ?_); refine Kd.R_lit (Kd.int .u8) _ 5 ?hg (N := 58) ?hd (xs := ([] : List Int)) (inner := []) (ok := fun _ => True) (okp := fun _ => True) ?hr ?hp (fun _ hk => hk) trivial (Below.refl _ _) (Nat.le_refl _) (by simp) ?_; (case hd => rfl); (case hg => rfl); (case hr => first | (go_simp; done) | (go_simp; rfl)); (case hp => exact (Reps.none _ _)); intro v58 w10 ho_ hb hg_ hnew_; clear hg_ hnew_; have k0_ := Aside0.mk (blk_below BS.out hb); clear BS; have BS := k0_; clear k0_; have n0_ := Aside0.mk (Kd.R_lower ho_ (below_size (by repeat (first | (with_reducible first | exact HB.out | apply below_alloc | apply pw_below_drewN | apply below_drew1) | exact HB.out)))); have n1_ := Aside0.mk (below_step (by repeat (first | (with_reducible first | exact HB.out | apply below_alloc | apply pw_below_drewN | apply below_drew1) | exact HB.out)) hb); clear HB; have HO := n0_; have HB := n1_; clear n0_ n1_ hb ho_) | ((with_reducible refine gate_dst (N := 59) rfl ?_); refine stop_here ?_))
                    refine stop_go ?_
                    refine wpList_load_row rfl 122 _ rfl g8 rfl _ _ _ _ BS.out Try.underlying122 rfl ?hi ?_
                    case hi => rw [u32s_size, HS.out.1]; kernel_rfl
                    go_wp2
                    clear BS
                    go_loopg [9, 60] 8 (fun kq v9 v60 w' => ∃ i : Nat, v60 = .int .i64 (i : Int) ∧ Aside0 (i + kq = 8) ∧ Aside0 (Kd.R (Kd.int .u8) 5 w' w.heap.size (fun _ => True) v9 (outN (s.take i))) ∧ Aside0 (Below w.heap.size w w'))
                    case atStart => exact ⟨0, rfl, ⟨rfl⟩, HO, HB⟩
                    case round =>
                      clear HO HB
                      obtain ⟨i, rfl, HJ, HO, HB⟩ := hrel
                      cases gk with
                      | zero =>
                        have e := HJ.out
                        have c9_ : decide ((i : Int) < 8) = false := decide_eq_false (by omega)
                        obtain rfl : i = 8 := by omega
                        have HE := Aside0.mk (show outN (s.take 8) = sha l0.flatten by rw [List.take_of_length_le (by rw [HS.out.1]; exact Nat.le_refl _), HPS.out, HF.out])
                        rw [HE.out] at HO
                        clear e HJ
                        go_wp2
                        go_ret
                        exact ⟨_, rfl, HO.out, HB.out⟩
                      | succ k1 =>
                        have e := HJ.out
                        have c9_ : decide ((i : Int) < 8) = true := decide_eq_true (by omega)
                        have hs8 := HS.out.1
                        have hidx : ∀ w : World, (Instr.index 122 (.agg (u32s s)) (.int .i64 (i : Int))).run Try.prog w = .ok (.int .u32 ((s.getD i 0 : Nat) : Int)) w := fun w => run_index_u32s s i Try.underlying122 (fun _ => by kernel_rfl) (fun _ => by kernel_rfl) hs8 (by omega)
                        have HST := Aside0.mk (out_step s i (by omega))
                        have LM := Aside0.mk (show (outN (s.take i)).length + 4 < 140737488355328 by rw [outN_length, List.length_take]; omega)
                        generalize s.getD i 0 = x at *
                        clear e hs8
                        go_wp2_with (first | ((with_reducible refine gate_builtin (b := .append) (xs := #[.tmp 63, .tmp 75]) rfl ?_); at_builtin; refine Kd.R_append_rows (Kd.int .u8) (w0 := w) w.heap.size rfl (.tmp 63) (.tmp 75) 22 5 (.int .u8 0) 1 rfl Try.underlying22 info5 rfl (by decide) (by omega) _ (outN (s.take i)) [(x : Int) / 16777216 % 256, (x : Int) / 65536 % 256, (x : Int) / 256 % 256, (x : Int) % 256] _ _ _ (fun _ => True) (fun _ => False) rfl rfl ?aO ?aR (fun _ _ h => h) (fun _ h => h.elim) ?aF ?aB ?aS ?aL ?_; (case aR => (first | exact C_new [(x : Int) / 16777216 % 256, (x : Int) / 65536 % 256, (x : Int) / 256 % 256, (x : Int) % 256] _ _ (by simp))); (case aB => exact (by repeat (first | (with_reducible first | exact HB.out | apply below_alloc | apply pw_below_drewN | apply below_drew1) | exact HB.out))); (case aF => exact (fun _ _ => trivial)); (case aO => exact (by (with_reducible repeat (first | apply Kd.R_alloc | apply Kd.R_drewN | apply Kd.R_drew)); exact HO.out)); (case aS => exact (below_size (by repeat (first | (with_reducible first | exact HB.out | apply below_alloc | apply pw_below_drewN | apply below_drew1) | exact HB.out)))); (case aL => have := LM.out; omega); intro v76 w12 ho_ hb hg hat; have n0_ := Aside0.mk hb; have n1_ := Aside0.mk ho_; clear HB HO; have HB := n0_; have HO := n1_; clear n0_ n1_ ho_ hb hg hat))
                        rw [← HST.out] at HO
                        go_roundg k1
                        case measure => have := HJ.out; omega
                        case rel => exact ⟨i + 1, by first | rfl | (rw [w64s (by have := HJ.out; omega)]), ⟨by have := HJ.out; omega⟩, HO, HB⟩
                  | succ k1 =>
                    have e := HJ.out
                    have hgt : decide ((d.length : Int) > 0) = true := decide_eq_true (by omega)
                    have hgt2 : ((0 : Int) < (d.length : Int)) = True := eq_true (by omega)
                    have hgt3 : (0 < d.length) = True := eq_true (by omega)
                    obtain ⟨i5, hi5⟩ : ∃ i, Try.prog.info? 5 = some i := ⟨_, rfl⟩
                    have hsz5 : i5.size = 1 := by have h := info5; rw [hi5] at h; simp at h; exact h.2.1
                    have hcut := cut_to (P := Try.prog) 22 5 .i64 Try.underlying22 hi5 A d.length c 64 (by decide) (by omega) HCc.out
                    have hcut2 := cut_from (P := Try.prog) 22 5 .i64 Try.underlying22 hi5 1 hsz5 A d.length c 64 (by decide) (by omega)
                    have hr1 := Kd.C_take HC.out (m := 64) (by omega)
                    have hr2 := Kd.C_drop HC.out (m := 64) (by omega) HCc.out
                    have hl1 : (d.take 64).length = 64 := by rw [List.length_take]; omega
                    have hl2 : (d.drop 64).length = d.length - 64 := List.length_drop
                    have HH2 := Aside0.mk (show hashN k1 (blockN s (d.take 64)) (d.drop 64) = hashN (m.length / 64) startN m from HH.out)
                    have HY1 := Aside0.mk (byt_take HY.out 64)
                    have HY2 := Aside0.mk (byt_drop HY.out 64)
                    have HBN := Aside0.mk (blockN_ok HS.out.1 HS.out.2 (d.take 64))
                    have HJ2 := Aside0.mk (show (d.drop 64).length = 64 * k1 by omega)
                    have HCd := Aside0.mk (show (d.drop 64).length ≤ c - 64 by have := HCc.out; omega)
                    have HC1 := Aside0.mk (show (d.take 64).length ≤ c by have := HCc.out; omega)
                    have hcutA : ∀ W : World, (Instr.slice 22 (.slice A d.length c) none (some (.int .i64 64)) none).run Try.prog W = .ok (.slice A 64 c) W := fun W => hcut W
                    obtain ⟨A2, hA2⟩ : ∃ A2, A2 = (if c = 64 then A else A.map (·.add (64 * (Kd.int .u8).sz))) := ⟨_, rfl⟩
                    have hcutB : ∀ W : World, (Instr.slice 22 (.slice A d.length c) (some (.int .i64 64)) none none).run Try.prog W = .ok (.slice A2 (d.drop 64).length (c - 64)) W := fun W => by rw [hA2, hl2]; exact hcut2 W
                    rw [← hA2] at hr2
                    have HR1 := Aside0.mk hr1
                    have HR2 := Aside0.mk hr2
                    have HL1 := Aside0.mk hl1
                    clear hcut hcut2 hA2 hr1 hr2 hl1 hl2 hi5 hsz5 e HH HJ HC HY HCc
                    generalize d.take 64 = d1 at *
                    generalize d.drop 64 = d2 at *
                    go_upto_region 18 with fail
                    refine cwp_named ?_
                    intro wz hz
                    replace BS := Aside0.mk (show wz.heap[g8]? = some (.cells (u32s s) 122 (0, 0)) by rw [← hz]; exact BS.out)
                    have h_ := HB7.out
                    rw [hz] at h_
                    have HBz := Aside0.mk h_
                    clear h_ hz HB7
                    refine wp_region_still_tail 3 (by kernel_rfl) (by kernel_rfl) ?_
                    simp only [List.take_succ_cons, List.take_zero, List.drop_succ_cons, List.drop_zero]
                    refine wpStill_step (fun K hK => ?_)
                    refine still_load_row rfl 122 _ rfl g8 rfl _ _ _ _ BS.out Try.underlying122 rfl ?hi ?_
                    case hi => rw [u32s_size, HS.out.1]; kernel_rfl
                    refine hK _ ?_
                    clear hK K
                    simp only [Act.put, List.setIfInBounds_toArray, List.set_cons_zero, List.set_cons_succ]
                    repeat still_step
                    refine wpStill_nil ?_
                    have BSy := Aside0.mk (show wz.drew.heap[g8]? = some (.cells (u32s s) 122 (0, 0)) from BS.out)
                    have HBy := Aside0.mk (below_drew1 HBz.out)
                    change wpList _ _ _ _ _ wz.drew
                    generalize wz.drew = wy at *
                    clear BS HBz
                    go_wp2_with (first | (go_at_call 116; refine (impl_block.calls64 s HS.out.1 HS.out.2 A c d1 _ (Kd.C_below HR1.out HBy.out) HC1.out HL1.out HY1.out).mono ?_; rintro e wm ⟨rfl, hbm⟩; have HBm := Aside0.mk (below_step HBy.out hbm); have BSm := Aside0.mk (blk_below BSy.out hbm); clear HBy BSy hbm) | ((with_reducible refine gate_store (t := 122) (p := 8) (v := .tmp 57) rfl ?_); refine stop_here ?_))
                    refine stop_go ?_
                    refine row_event rfl 122 (.tmp 8) (.tmp 57) rfl g8 (u32s (blockN s d1)) rfl rfl 122 _ BSm.out ?hi ?hold (u32s_one _) rfl HBm.out G8.out ?_
                    case hi => rw [u32s_size, HBN.out.1]; kernel_rfl
                    case hold => rw [u32s_size, u32s_size, HBN.out.1, HS.out.1]
                    intro w9 bo ho hb9
                    have BS9 := Aside0.mk bo
                    have HB9 := Aside0.mk hb9
                    clear HBm BSm bo ho hb9
                    go_wp2
                    go_roundg k1
                    case measure => exact Nat.lt_succ_self _
                    case rel => exact ⟨A2, c - 64, d2, blockN s d1, rfl, HJ2, HH2, HBN, HY2, HCd, HR2, BS9, HB9⟩
              | succ k1 =>
                have LM := Aside0.mk (show (x ++ (be8 n8).take q).length < 140737488355328 by
                  have := hxn.out
                  have := HL.out
                  have := HJ.out
                  rw [List.length_append, List.length_take]
                  unfold fillN at *
                  omega)
                have e := HJ.out
                have hz := HZ.out
                have hq : q = 0 ∨ q = 1 ∨ q = 2 ∨ q = 3 ∨ q = 4 ∨ q = 5 ∨ q = 6 ∨ q = 7 := by omega
                rcases hq with rfl | rfl | rfl | rfl | rfl | rfl | rfl | rfl
                · obtain rfl : z = 56 := by omega
                  clear e hz HZ
                  go_wp2_with (first | ((with_reducible refine gate_builtin (b := .append) (xs := #[.tmp 41, .tmp 46]) rfl ?_); at_builtin; refine Kd.R_append (Kd.int .u8) (w0 := w) w.heap.size rfl (.tmp 41) (.tmp 46) 22 5 (.int .u8 0) 1 rfl Try.underlying22 info5 rfl (by decide) (by omega) _ (x ++ List.take 0 (be8 n8)) ((n8 : Int) / 72057594037927936 % 256) [.int .u8 ((n8 : Int) / 72057594037927936 % 256)] (fun _ => True) (fun _ => False) rfl rfl ?aP (fun _ hk => hk.elim) ?aF ?aO ?aB ?aS ?aL ?_; (case aP => exact rfl); (case aB => exact (by repeat (first | (with_reducible first | exact HB.out | apply below_alloc | apply pw_below_drewN | apply below_drew1) | exact HB.out))); (case aF => exact (fun _ _ => trivial)); (case aO => exact (by (with_reducible repeat (first | apply Kd.R_alloc | apply Kd.R_drewN | apply Kd.R_drew)); exact HO.out)); (case aS => exact (below_size (by repeat (first | (with_reducible first | exact HB.out | apply below_alloc | apply pw_below_drewN | apply below_drew1) | exact HB.out)))); (case aL => have := LM.out; omega); intro v47 w8 ho_ hb hg hat; have n0_ := Aside0.mk hb; have n1_ := Aside0.mk ho_; clear HB HO; have HB := n0_; have HO := n1_; clear n0_ n1_ ho_ hb hg hat))
                  have h_ := HO.out
                  rw [show x ++ List.take 0 (be8 n8) ++ [((n8 : Int) / 72057594037927936 % 256)] = x ++ List.take 1 (be8 n8) from by simp [be8]] at h_
                  have HO2 := Aside0.mk h_
                  clear HO h_
                  go_roundg k1
                  case measure => have := HJ.out; omega
                  case rel => exact ⟨1, 48, by first | rfl | (simp; done) | decide +kernel, ⟨by omega⟩, ⟨by have := HJ.out; omega⟩, HO2, HB⟩
                · obtain rfl : z = 48 := by omega
                  clear e hz HZ
                  go_wp2_with (first | ((with_reducible refine gate_builtin (b := .append) (xs := #[.tmp 41, .tmp 46]) rfl ?_); at_builtin; refine Kd.R_append (Kd.int .u8) (w0 := w) w.heap.size rfl (.tmp 41) (.tmp 46) 22 5 (.int .u8 0) 1 rfl Try.underlying22 info5 rfl (by decide) (by omega) _ (x ++ List.take 1 (be8 n8)) ((n8 : Int) / 281474976710656 % 256) [.int .u8 ((n8 : Int) / 281474976710656 % 256)] (fun _ => True) (fun _ => False) rfl rfl ?aP (fun _ hk => hk.elim) ?aF ?aO ?aB ?aS ?aL ?_; (case aP => exact rfl); (case aB => exact (by repeat (first | (with_reducible first | exact HB.out | apply below_alloc | apply pw_below_drewN | apply below_drew1) | exact HB.out))); (case aF => exact (fun _ _ => trivial)); (case aO => exact (by (with_reducible repeat (first | apply Kd.R_alloc | apply Kd.R_drewN | apply Kd.R_drew)); exact HO.out)); (case aS => exact (below_size (by repeat (first | (with_reducible first | exact HB.out | apply below_alloc | apply pw_below_drewN | apply below_drew1) | exact HB.out)))); (case aL => have := LM.out; omega); intro v47 w8 ho_ hb hg hat; have n0_ := Aside0.mk hb; have n1_ := Aside0.mk ho_; clear HB HO; have HB := n0_; have HO := n1_; clear n0_ n1_ ho_ hb hg hat))
                  have h_ := HO.out
                  rw [show x ++ List.take 1 (be8 n8) ++ [((n8 : Int) / 281474976710656 % 256)] = x ++ List.take 2 (be8 n8) from by simp [be8]] at h_
                  have HO2 := Aside0.mk h_
                  clear HO h_
                  go_roundg k1
                  case measure => have := HJ.out; omega
                  case rel => exact ⟨2, 40, by first | rfl | (simp; done) | decide +kernel, ⟨by omega⟩, ⟨by have := HJ.out; omega⟩, HO2, HB⟩
                · obtain rfl : z = 40 := by omega
                  clear e hz HZ
                  go_wp2_with (first | ((with_reducible refine gate_builtin (b := .append) (xs := #[.tmp 41, .tmp 46]) rfl ?_); at_builtin; refine Kd.R_append (Kd.int .u8) (w0 := w) w.heap.size rfl (.tmp 41) (.tmp 46) 22 5 (.int .u8 0) 1 rfl Try.underlying22 info5 rfl (by decide) (by omega) _ (x ++ List.take 2 (be8 n8)) ((n8 : Int) / 1099511627776 % 256) [.int .u8 ((n8 : Int) / 1099511627776 % 256)] (fun _ => True) (fun _ => False) rfl rfl ?aP (fun _ hk => hk.elim) ?aF ?aO ?aB ?aS ?aL ?_; (case aP => exact rfl); (case aB => exact (by repeat (first | (with_reducible first | exact HB.out | apply below_alloc | apply pw_below_drewN | apply below_drew1) | exact HB.out))); (case aF => exact (fun _ _ => trivial)); (case aO => exact (by (with_reducible repeat (first | apply Kd.R_alloc | apply Kd.R_drewN | apply Kd.R_drew)); exact HO.out)); (case aS => exact (below_size (by repeat (first | (with_reducible first | exact HB.out | apply below_alloc | apply pw_below_drewN | apply below_drew1) | exact HB.out)))); (case aL => have := LM.out; omega); intro v47 w8 ho_ hb hg hat; have n0_ := Aside0.mk hb; have n1_ := Aside0.mk ho_; clear HB HO; have HB := n0_; have HO := n1_; clear n0_ n1_ ho_ hb hg hat))
                  have h_ := HO.out
                  rw [show x ++ List.take 2 (be8 n8) ++ [((n8 : Int) / 1099511627776 % 256)] = x ++ List.take 3 (be8 n8) from by simp [be8]] at h_
                  have HO2 := Aside0.mk h_
                  clear HO h_
                  go_roundg k1
                  case measure => have := HJ.out; omega
                  case rel => exact ⟨3, 32, by first | rfl | (simp; done) | decide +kernel, ⟨by omega⟩, ⟨by have := HJ.out; omega⟩, HO2, HB⟩
                · obtain rfl : z = 32 := by omega
                  clear e hz HZ
                  go_wp2_with (first | ((with_reducible refine gate_builtin (b := .append) (xs := #[.tmp 41, .tmp 46]) rfl ?_); at_builtin; refine Kd.R_append (Kd.int .u8) (w0 := w) w.heap.size rfl (.tmp 41) (.tmp 46) 22 5 (.int .u8 0) 1 rfl Try.underlying22 info5 rfl (by decide) (by omega) _ (x ++ List.take 3 (be8 n8)) ((n8 : Int) / 4294967296 % 256) [.int .u8 ((n8 : Int) / 4294967296 % 256)] (fun _ => True) (fun _ => False) rfl rfl ?aP (fun _ hk => hk.elim) ?aF ?aO ?aB ?aS ?aL ?_; (case aP => exact rfl); (case aB => exact (by repeat (first | (with_reducible first | exact HB.out | apply below_alloc | apply pw_below_drewN | apply below_drew1) | exact HB.out))); (case aF => exact (fun _ _ => trivial)); (case aO => exact (by (with_reducible repeat (first | apply Kd.R_alloc | apply Kd.R_drewN | apply Kd.R_drew)); exact HO.out)); (case aS => exact (below_size (by repeat (first | (with_reducible first | exact HB.out | apply below_alloc | apply pw_below_drewN | apply below_drew1) | exact HB.out)))); (case aL => have := LM.out; omega); intro v47 w8 ho_ hb hg hat; have n0_ := Aside0.mk hb; have n1_ := Aside0.mk ho_; clear HB HO; have HB := n0_; have HO := n1_; clear n0_ n1_ ho_ hb hg hat))
                  have h_ := HO.out
                  rw [show x ++ List.take 3 (be8 n8) ++ [((n8 : Int) / 4294967296 % 256)] = x ++ List.take 4 (be8 n8) from by simp [be8]] at h_
                  have HO2 := Aside0.mk h_
                  clear HO h_
                  go_roundg k1
                  case measure => have := HJ.out; omega
                  case rel => exact ⟨4, 24, by first | rfl | (simp; done) | decide +kernel, ⟨by omega⟩, ⟨by have := HJ.out; omega⟩, HO2, HB⟩
                · obtain rfl : z = 24 := by omega
                  clear e hz HZ
                  go_wp2_with (first | ((with_reducible refine gate_builtin (b := .append) (xs := #[.tmp 41, .tmp 46]) rfl ?_); at_builtin; refine Kd.R_append (Kd.int .u8) (w0 := w) w.heap.size rfl (.tmp 41) (.tmp 46) 22 5 (.int .u8 0) 1 rfl Try.underlying22 info5 rfl (by decide) (by omega) _ (x ++ List.take 4 (be8 n8)) ((n8 : Int) / 16777216 % 256) [.int .u8 ((n8 : Int) / 16777216 % 256)] (fun _ => True) (fun _ => False) rfl rfl ?aP (fun _ hk => hk.elim) ?aF ?aO ?aB ?aS ?aL ?_; (case aP => exact rfl); (case aB => exact (by repeat (first | (with_reducible first | exact HB.out | apply below_alloc | apply pw_below_drewN | apply below_drew1) | exact HB.out))); (case aF => exact (fun _ _ => trivial)); (case aO => exact (by (with_reducible repeat (first | apply Kd.R_alloc | apply Kd.R_drewN | apply Kd.R_drew)); exact HO.out)); (case aS => exact (below_size (by repeat (first | (with_reducible first | exact HB.out | apply below_alloc | apply pw_below_drewN | apply below_drew1) | exact HB.out)))); (case aL => have := LM.out; omega); intro v47 w8 ho_ hb hg hat; have n0_ := Aside0.mk hb; have n1_ := Aside0.mk ho_; clear HB HO; have HB := n0_; have HO := n1_; clear n0_ n1_ ho_ hb hg hat))
                  have h_ := HO.out
                  rw [show x ++ List.take 4 (be8 n8) ++ [((n8 : Int) / 16777216 % 256)] = x ++ List.take 5 (be8 n8) from by simp [be8]] at h_
                  have HO2 := Aside0.mk h_
                  clear HO h_
                  go_roundg k1
                  case measure => have := HJ.out; omega
                  case rel => exact ⟨5, 16, by first | rfl | (simp; done) | decide +kernel, ⟨by omega⟩, ⟨by have := HJ.out; omega⟩, HO2, HB⟩
                · obtain rfl : z = 16 := by omega
                  clear e hz HZ
                  go_wp2_with (first | ((with_reducible refine gate_builtin (b := .append) (xs := #[.tmp 41, .tmp 46]) rfl ?_); at_builtin; refine Kd.R_append (Kd.int .u8) (w0 := w) w.heap.size rfl (.tmp 41) (.tmp 46) 22 5 (.int .u8 0) 1 rfl Try.underlying22 info5 rfl (by decide) (by omega) _ (x ++ List.take 5 (be8 n8)) ((n8 : Int) / 65536 % 256) [.int .u8 ((n8 : Int) / 65536 % 256)] (fun _ => True) (fun _ => False) rfl rfl ?aP (fun _ hk => hk.elim) ?aF ?aO ?aB ?aS ?aL ?_; (case aP => exact rfl); (case aB => exact (by repeat (first | (with_reducible first | exact HB.out | apply below_alloc | apply pw_below_drewN | apply below_drew1) | exact HB.out))); (case aF => exact (fun _ _ => trivial)); (case aO => exact (by (with_reducible repeat (first | apply Kd.R_alloc | apply Kd.R_drewN | apply Kd.R_drew)); exact HO.out)); (case aS => exact (below_size (by repeat (first | (with_reducible first | exact HB.out | apply below_alloc | apply pw_below_drewN | apply below_drew1) | exact HB.out)))); (case aL => have := LM.out; omega); intro v47 w8 ho_ hb hg hat; have n0_ := Aside0.mk hb; have n1_ := Aside0.mk ho_; clear HB HO; have HB := n0_; have HO := n1_; clear n0_ n1_ ho_ hb hg hat))
                  have h_ := HO.out
                  rw [show x ++ List.take 5 (be8 n8) ++ [((n8 : Int) / 65536 % 256)] = x ++ List.take 6 (be8 n8) from by simp [be8]] at h_
                  have HO2 := Aside0.mk h_
                  clear HO h_
                  go_roundg k1
                  case measure => have := HJ.out; omega
                  case rel => exact ⟨6, 8, by first | rfl | (simp; done) | decide +kernel, ⟨by omega⟩, ⟨by have := HJ.out; omega⟩, HO2, HB⟩
                · obtain rfl : z = 8 := by omega
                  clear e hz HZ
                  go_wp2_with (first | ((with_reducible refine gate_builtin (b := .append) (xs := #[.tmp 41, .tmp 46]) rfl ?_); at_builtin; refine Kd.R_append (Kd.int .u8) (w0 := w) w.heap.size rfl (.tmp 41) (.tmp 46) 22 5 (.int .u8 0) 1 rfl Try.underlying22 info5 rfl (by decide) (by omega) _ (x ++ List.take 6 (be8 n8)) ((n8 : Int) / 256 % 256) [.int .u8 ((n8 : Int) / 256 % 256)] (fun _ => True) (fun _ => False) rfl rfl ?aP (fun _ hk => hk.elim) ?aF ?aO ?aB ?aS ?aL ?_; (case aP => exact rfl); (case aB => exact (by repeat (first | (with_reducible first | exact HB.out | apply below_alloc | apply pw_below_drewN | apply below_drew1) | exact HB.out))); (case aF => exact (fun _ _ => trivial)); (case aO => exact (by (with_reducible repeat (first | apply Kd.R_alloc | apply Kd.R_drewN | apply Kd.R_drew)); exact HO.out)); (case aS => exact (below_size (by repeat (first | (with_reducible first | exact HB.out | apply below_alloc | apply pw_below_drewN | apply below_drew1) | exact HB.out)))); (case aL => have := LM.out; omega); intro v47 w8 ho_ hb hg hat; have n0_ := Aside0.mk hb; have n1_ := Aside0.mk ho_; clear HB HO; have HB := n0_; have HO := n1_; clear n0_ n1_ ho_ hb hg hat))
                  have h_ := HO.out
                  rw [show x ++ List.take 6 (be8 n8) ++ [((n8 : Int) / 256 % 256)] = x ++ List.take 7 (be8 n8) from by simp [be8]] at h_
                  have HO2 := Aside0.mk h_
                  clear HO h_
                  go_roundg k1
                  case measure => have := HJ.out; omega
                  case rel => exact ⟨7, 0, by first | rfl | (simp; done) | decide +kernel, ⟨by omega⟩, ⟨by have := HJ.out; omega⟩, HO2, HB⟩
                · obtain rfl : z = 0 := by omega
                  clear e hz HZ
                  go_wp2_with (first | ((with_reducible refine gate_builtin (b := .append) (xs := #[.tmp 41, .tmp 46]) rfl ?_); at_builtin; refine Kd.R_append (Kd.int .u8) (w0 := w) w.heap.size rfl (.tmp 41) (.tmp 46) 22 5 (.int .u8 0) 1 rfl Try.underlying22 info5 rfl (by decide) (by omega) _ (x ++ List.take 7 (be8 n8)) ((n8 : Int) % 256) [.int .u8 ((n8 : Int) % 256)] (fun _ => True) (fun _ => False) rfl rfl ?aP (fun _ hk => hk.elim) ?aF ?aO ?aB ?aS ?aL ?_; (case aP => exact rfl); (case aB => exact (by repeat (first | (with_reducible first | exact HB.out | apply below_alloc | apply pw_below_drewN | apply below_drew1) | exact HB.out))); (case aF => exact (fun _ _ => trivial)); (case aO => exact (by (with_reducible repeat (first | apply Kd.R_alloc | apply Kd.R_drewN | apply Kd.R_drew)); exact HO.out)); (case aS => exact (below_size (by repeat (first | (with_reducible first | exact HB.out | apply below_alloc | apply pw_below_drewN | apply below_drew1) | exact HB.out)))); (case aL => have := LM.out; omega); intro v47 w8 ho_ hb hg hat; have n0_ := Aside0.mk hb; have n1_ := Aside0.mk ho_; clear HB HO; have HB := n0_; have HO := n1_; clear n0_ n1_ ho_ hb hg hat))
                  have h_ := HO.out
                  rw [show x ++ List.take 7 (be8 n8) ++ [((n8 : Int) % 256)] = x ++ List.take 8 (be8 n8) from by simp [be8]] at h_
                  have HO2 := Aside0.mk h_
                  clear HO h_
                  go_roundg k1
                  case measure => have := HJ.out; omega
                  case rel => exact ⟨8, -8, by first | rfl | (simp; done) | decide +kernel, ⟨by omega⟩, ⟨by have := HJ.out; omega⟩, HO2, HB⟩
          | succ k1 =>
            have hm : ¬ (x.length : Int) % 64 = 56 := by have := HJ.out; have := HX.out.2.1; unfold fillN at *; omega
            have c8b0 : (((x.length : Int) % 64) == 56) = false := beq_eq_false_iff_ne.mpr hm
            have c8b1 : (((x.length : Int) % 64) != 56) = true := bne_iff_ne.mpr hm
            have LM := Aside0.mk (show x.length < 140737488355328 by have := HX.out.2.1; have := HJ.out; have := HL.out; unfold fillN at *; omega)
            clear hm
            go_wp2_with (first | ((with_reducible refine gate_builtin (b := .append) (xs := #[.tmp 34, .tmp 35]) rfl ?_); at_builtin; refine Kd.R_append (Kd.int .u8) (w0 := w) w.heap.size rfl (.tmp 34) (.tmp 35) 22 5 (.int .u8 0) 1 rfl Try.underlying22 info5 rfl (by decide) (by omega) _ x 0 [.int .u8 0] (fun _ => True) (fun _ => False) rfl rfl ?aP (fun _ hk => hk.elim) ?aF ?aO ?aB ?aS ?aL ?_; (case aP => exact rfl); (case aB => exact (by repeat (first | (with_reducible first | exact HB.out | apply below_alloc | apply pw_below_drewN | apply below_drew1) | exact HB.out))); (case aF => exact (fun _ _ => trivial)); (case aO => exact (by (with_reducible repeat (first | apply Kd.R_alloc | apply Kd.R_drewN | apply Kd.R_drew)); exact HO.out)); (case aS => exact (below_size (by repeat (first | (with_reducible first | exact HB.out | apply below_alloc | apply pw_below_drewN | apply below_drew1) | exact HB.out)))); (case aL => have := LM.out; omega); intro v36 w6 ho_ hb hg hat; have n0_ := Aside0.mk hb; have n1_ := Aside0.mk ho_; clear HB HO; have HB := n0_; have HO := n1_; clear n0_ n1_ ho_ hb hg hat))
            rw [HX.out.2.2] at HO
            go_roundg k1
            case measure => have := HJ.out; omega
            case rel => exact ⟨j + 1, ⟨by have := HJ.out; omega⟩, HO, HB⟩
      | succ k1 =>
        have e := HI.out
        have hlt : i < l0.length := by omega
        have c1_ : decide ((i : Int) < (l0.length : Int)) = true := decide_eq_true (by omega)
        obtain ⟨ad, A5, c5, e1, hx, hl, hi⟩ := at_L1 HR0.out (i : Int) (by omega) (by omega)
        cases e1
        replace hx := (HB.out.cell (World.block_lt_of_cell? w _ hx)).trans hx
        rw [rd_row l0 i hlt] at hx hl hi
        rw [Int.toNat_natCast] at hx
        have HI5 := Aside0.mk hi
        have LM := Aside0.mk (show (l0.take i).flatten.length + l0[i].length < 140737488355328 by
          have h1 := flat_step l0 i hlt
          have h2 := flat_le l0 (i + 1)
          rw [h1, List.length_append] at h2
          have := HL.out
          omega)
        have HF := Aside0.mk (flat_step l0 i hlt)
        have p0 : (0 ≤ (i : Int)) = True := eq_true (by omega)
        have p1 : ((i : Int) < (l0.length : Int)) = True := eq_true (by omega)
        generalize l0[i] = y at *
        clear e hlt hi
        go_wp2_with (first | ((with_reducible refine gate_builtin (b := .append) (xs := #[.tmp 19, .tmp 20]) rfl ?_); at_builtin; refine Kd.R_append_rows (Kd.int .u8) (w0 := w) w.heap.size rfl (.tmp 19) (.tmp 20) 22 5 (.int .u8 0) 1 rfl Try.underlying22 info5 rfl (by decide) (by omega) _ (l0.take i).flatten y _ _ _ (fun _ => True) (fun _ => False) rfl rfl ?aO ?aR (fun _ _ h => h) (fun _ h => h.elim) ?aF ?aB ?aS ?aL ?_; (case aR => repeat (first | exact (Kd.C_below HI5.out HB.out) | (with_reducible refine Kd.C_alloc ?_ _) | (with_reducible refine Kd.C_drewN ?_ _) | (with_reducible refine Kd.C_drew ?_))); (case aB => exact (by repeat (first | (with_reducible first | exact HB.out | apply below_alloc | apply pw_below_drewN | apply below_drew1) | exact HB.out))); (case aF => exact (fun _ _ => trivial)); (case aO => exact (by (with_reducible repeat (first | apply Kd.R_alloc | apply Kd.R_drewN | apply Kd.R_drew)); exact HO.out)); (case aS => exact (below_size (by repeat (first | (with_reducible first | exact HB.out | apply below_alloc | apply pw_below_drewN | apply below_drew1) | exact HB.out)))); (case aL => have := LM.out; omega); intro v21 w3 ho_ hb hg hat; have n0_ := Aside0.mk hb; have n1_ := Aside0.mk ho_; clear HB HO; have HB := n0_; have HO := n1_; clear n0_ n1_ ho_ hb hg hat))
        rw [← HF.out] at HO
        go_roundg k1
        case measure => have := HI.out; omega
        case rel => exact ⟨i + 1, by first | rfl | (rw [w64s (by have := HI.out; have := HN.out; omega)]), ⟨by have := HI.out; omega⟩, HO, HB⟩
  · rw [if_neg hk] at h
    cases h


end Go.Proofs.Ytchmaojmknfbpaa.S
