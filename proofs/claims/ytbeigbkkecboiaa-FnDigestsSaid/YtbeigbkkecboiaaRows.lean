/-
  No cell of these rows narrows 'for every input' (looked for: loops, veiled, ifaces, maps, wideKeys, modest, calm, conditions, laid).
  DERIVED. THE GIVEN ROWS OF THIS SEAT. 13 by the template 'for every input the law returns true; each argument reads behind the call as it read before'; 0 by the template 'total and deterministic' (their statements: YtbeigbkkecboiaaTotals.lean).
  GIVEN WITH THE SEED: the statements are not yours to turn. If you find one false, say at which input.
  Laid BY PROGRAM, IN A SANDBOX (cutbox-rows.mjs): the forced cells as the released guide's own fill.sh prints them over the translation bdde2932220a9134… (all of the seat's roots in one cut). By AI agents, Wed Nov 11 2026. No macro, syntax, notation, axiom, sorry.
-/
import Derived.Test.YtbeigbkkecboiaaChecked
import GoSem.Claim
import GoSem.ClaimJoined
import GoSem.ClaimMapViews
import Derived.JoinedTies
import Derived.KernelRfl
namespace Go.Proofs.Ytbeigbkkecboiaa
/- THE CELL 'sum', in the pinned program and in every row, IS THE sha256 OF THE DUMP (.gsa) THAT YtbeigbkkecboiaaProg.lean LOADS. Nothing in Lean hashes anything: it is a label: what it is worth is what the hold of that sum in a sandbox is worth. -/
noncomputable def Try.pinned : Pinned := { name := "ytbeigbkkecboiaa", sum := "bdde2932220a91347e71020b3091c2996a30fce1e0708a53e5dabfbef9e5e2b3", checked := Try.checked }
namespace Rows
def none {H : Type} : Left H := { results := [], args := [] }

/-- 'laws.FnExactMixRound': WHATEVER THE INPUT: true; the input reads as it did. -/
def fnExactMixRoundSpec : ChangeSpec := { name := "fnExactMixRound", fn := fun _ => fun
  | [d1, d2, d3] => { results := [.lit (.bool true)], args := [d1, d2, d3] }
  | _ => none }
def fnExactMixRoundRow : OpenClaim := { program := "ytbeigbkkecboiaa", sum := "bdde2932220a91347e71020b3091c2996a30fce1e0708a53e5dabfbef9e5e2b3", func := "loop.example/g00143/laws.FnExactMixRound", spec := "fnExactMixRound", unfollowed := true, recurses := true, apart := false }
def FnExactMixRoundSaid : Prop := fnExactMixRoundRow.holds Try.pinned (OpenSpec.ofChange fnExactMixRoundSpec)

/-- ITS FALSE NEIGHBOUR: 'it returns false'. Refute it at one input. -/
def fnExactMixRoundWrong : ChangeSpec := { name := "fnExactMixRound", fn := fun _ => fun
  | [d1, d2, d3] => { results := [.lit (.bool false)], args := [d1, d2, d3] }
  | _ => none }
def FnExactMixRoundWrongFalsely : Prop := fnExactMixRoundRow.holds Try.pinned (OpenSpec.ofChange fnExactMixRoundWrong)

/-- 'laws.FnDigits': WHATEVER THE INPUT: true; the input reads as it did. -/
def fnDigitsSpec : ChangeSpec := { name := "fnDigits", fn := fun _ => fun
  | [d] => { results := [.lit (.bool true)], args := [d] }
  | _ => none }
def fnDigitsRow : OpenClaim := { program := "ytbeigbkkecboiaa", sum := "bdde2932220a91347e71020b3091c2996a30fce1e0708a53e5dabfbef9e5e2b3", func := "loop.example/g00143/laws.FnDigits", spec := "fnDigits", unfollowed := true, recurses := true, apart := false }
def FnDigitsSaid : Prop := fnDigitsRow.holds Try.pinned (OpenSpec.ofChange fnDigitsSpec)

/-- ITS FALSE NEIGHBOUR: 'it returns false'. Refute it at one input. -/
def fnDigitsWrong : ChangeSpec := { name := "fnDigits", fn := fun _ => fun
  | [d] => { results := [.lit (.bool false)], args := [d] }
  | _ => none }
def FnDigitsWrongFalsely : Prop := fnDigitsRow.holds Try.pinned (OpenSpec.ofChange fnDigitsWrong)

/-- 'laws.FnDigests': WHATEVER THE INPUT: true; the input reads as it did. -/
def fnDigestsSpec : ChangeSpec := { name := "fnDigests", fn := fun _ => fun
  | [d] => { results := [.lit (.bool true)], args := [d] }
  | _ => none }
def fnDigestsRow : OpenClaim := { program := "ytbeigbkkecboiaa", sum := "bdde2932220a91347e71020b3091c2996a30fce1e0708a53e5dabfbef9e5e2b3", func := "loop.example/g00143/laws.FnDigests", spec := "fnDigests", unfollowed := true, recurses := true, apart := false }
def FnDigestsSaid : Prop := fnDigestsRow.holds Try.pinned (OpenSpec.ofChange fnDigestsSpec)

/-- ITS FALSE NEIGHBOUR: 'it returns false'. Refute it at one input. -/
def fnDigestsWrong : ChangeSpec := { name := "fnDigests", fn := fun _ => fun
  | [d] => { results := [.lit (.bool false)], args := [d] }
  | _ => none }
def FnDigestsWrongFalsely : Prop := fnDigestsRow.holds Try.pinned (OpenSpec.ofChange fnDigestsWrong)

/-- 'laws.FnExactDigest': WHATEVER THE INPUT: true; the input reads as it did. -/
def fnExactDigestSpec : ChangeSpec := { name := "fnExactDigest", fn := fun _ => fun
  | [d] => { results := [.lit (.bool true)], args := [d] }
  | _ => none }
def fnExactDigestRow : OpenClaim := { program := "ytbeigbkkecboiaa", sum := "bdde2932220a91347e71020b3091c2996a30fce1e0708a53e5dabfbef9e5e2b3", func := "loop.example/g00143/laws.FnExactDigest", spec := "fnExactDigest", unfollowed := true, recurses := true, apart := false }
def FnExactDigestSaid : Prop := fnExactDigestRow.holds Try.pinned (OpenSpec.ofChange fnExactDigestSpec)

/-- ITS FALSE NEIGHBOUR: 'it returns false'. Refute it at one input. -/
def fnExactDigestWrong : ChangeSpec := { name := "fnExactDigest", fn := fun _ => fun
  | [d] => { results := [.lit (.bool false)], args := [d] }
  | _ => none }
def FnExactDigestWrongFalsely : Prop := fnExactDigestRow.holds Try.pinned (OpenSpec.ofChange fnExactDigestWrong)

/-- 'laws.FnExactTaggedDigest': WHATEVER THE INPUT: true; the input reads as it did. -/
def fnExactTaggedDigestSpec : ChangeSpec := { name := "fnExactTaggedDigest", fn := fun _ => fun
  | [d1, d2] => { results := [.lit (.bool true)], args := [d1, d2] }
  | _ => none }
def fnExactTaggedDigestRow : OpenClaim := { program := "ytbeigbkkecboiaa", sum := "bdde2932220a91347e71020b3091c2996a30fce1e0708a53e5dabfbef9e5e2b3", func := "loop.example/g00143/laws.FnExactTaggedDigest", spec := "fnExactTaggedDigest", unfollowed := true, recurses := true, apart := false }
def FnExactTaggedDigestSaid : Prop := fnExactTaggedDigestRow.holds Try.pinned (OpenSpec.ofChange fnExactTaggedDigestSpec)

/-- ITS FALSE NEIGHBOUR: 'it returns false'. Refute it at one input. -/
def fnExactTaggedDigestWrong : ChangeSpec := { name := "fnExactTaggedDigest", fn := fun _ => fun
  | [d1, d2] => { results := [.lit (.bool false)], args := [d1, d2] }
  | _ => none }
def FnExactTaggedDigestWrongFalsely : Prop := fnExactTaggedDigestRow.holds Try.pinned (OpenSpec.ofChange fnExactTaggedDigestWrong)

/-- 'laws.FnExactLeafDigest': WHATEVER THE INPUT: true; the input reads as it did. -/
def fnExactLeafDigestSpec : ChangeSpec := { name := "fnExactLeafDigest", fn := fun _ => fun
  | [d] => { results := [.lit (.bool true)], args := [d] }
  | _ => none }
def fnExactLeafDigestRow : OpenClaim := { program := "ytbeigbkkecboiaa", sum := "bdde2932220a91347e71020b3091c2996a30fce1e0708a53e5dabfbef9e5e2b3", func := "loop.example/g00143/laws.FnExactLeafDigest", spec := "fnExactLeafDigest", unfollowed := true, recurses := true, apart := false }
def FnExactLeafDigestSaid : Prop := fnExactLeafDigestRow.holds Try.pinned (OpenSpec.ofChange fnExactLeafDigestSpec)

/-- ITS FALSE NEIGHBOUR: 'it returns false'. Refute it at one input. -/
def fnExactLeafDigestWrong : ChangeSpec := { name := "fnExactLeafDigest", fn := fun _ => fun
  | [d] => { results := [.lit (.bool false)], args := [d] }
  | _ => none }
def FnExactLeafDigestWrongFalsely : Prop := fnExactLeafDigestRow.holds Try.pinned (OpenSpec.ofChange fnExactLeafDigestWrong)

/-- 'laws.FnExactNodeDigest': WHATEVER THE INPUT: true; the input reads as it did. -/
def fnExactNodeDigestSpec : ChangeSpec := { name := "fnExactNodeDigest", fn := fun _ => fun
  | [d1, d2] => { results := [.lit (.bool true)], args := [d1, d2] }
  | _ => none }
def fnExactNodeDigestRow : OpenClaim := { program := "ytbeigbkkecboiaa", sum := "bdde2932220a91347e71020b3091c2996a30fce1e0708a53e5dabfbef9e5e2b3", func := "loop.example/g00143/laws.FnExactNodeDigest", spec := "fnExactNodeDigest", unfollowed := true, recurses := true, apart := false }
def FnExactNodeDigestSaid : Prop := fnExactNodeDigestRow.holds Try.pinned (OpenSpec.ofChange fnExactNodeDigestSpec)

/-- ITS FALSE NEIGHBOUR: 'it returns false'. Refute it at one input. -/
def fnExactNodeDigestWrong : ChangeSpec := { name := "fnExactNodeDigest", fn := fun _ => fun
  | [d1, d2] => { results := [.lit (.bool false)], args := [d1, d2] }
  | _ => none }
def FnExactNodeDigestWrongFalsely : Prop := fnExactNodeDigestRow.holds Try.pinned (OpenSpec.ofChange fnExactNodeDigestWrong)

/-- 'laws.FnChains': WHATEVER THE INPUT: true; the input reads as it did. -/
def fnChainsSpec : ChangeSpec := { name := "fnChains", fn := fun _ => fun
  | [d] => { results := [.lit (.bool true)], args := [d] }
  | _ => none }
def fnChainsRow : OpenClaim := { program := "ytbeigbkkecboiaa", sum := "bdde2932220a91347e71020b3091c2996a30fce1e0708a53e5dabfbef9e5e2b3", func := "loop.example/g00143/laws.FnChains", spec := "fnChains", unfollowed := true, recurses := true, apart := false }
def FnChainsSaid : Prop := fnChainsRow.holds Try.pinned (OpenSpec.ofChange fnChainsSpec)

/-- ITS FALSE NEIGHBOUR: 'it returns false'. Refute it at one input. -/
def fnChainsWrong : ChangeSpec := { name := "fnChains", fn := fun _ => fun
  | [d] => { results := [.lit (.bool false)], args := [d] }
  | _ => none }
def FnChainsWrongFalsely : Prop := fnChainsRow.holds Try.pinned (OpenSpec.ofChange fnChainsWrong)

/-- 'laws.FnExactDigitsOf': WHATEVER THE INPUT: true; the input reads as it did. -/
def fnExactDigitsOfSpec : ChangeSpec := { name := "fnExactDigitsOf", fn := fun _ => fun
  | [d] => { results := [.lit (.bool true)], args := [d] }
  | _ => none }
def fnExactDigitsOfRow : OpenClaim := { program := "ytbeigbkkecboiaa", sum := "bdde2932220a91347e71020b3091c2996a30fce1e0708a53e5dabfbef9e5e2b3", func := "loop.example/g00143/laws.FnExactDigitsOf", spec := "fnExactDigitsOf", unfollowed := true, recurses := true, apart := false }
def FnExactDigitsOfSaid : Prop := fnExactDigitsOfRow.holds Try.pinned (OpenSpec.ofChange fnExactDigitsOfSpec)

/-- ITS FALSE NEIGHBOUR: 'it returns false'. Refute it at one input. -/
def fnExactDigitsOfWrong : ChangeSpec := { name := "fnExactDigitsOf", fn := fun _ => fun
  | [d] => { results := [.lit (.bool false)], args := [d] }
  | _ => none }
def FnExactDigitsOfWrongFalsely : Prop := fnExactDigitsOfRow.holds Try.pinned (OpenSpec.ofChange fnExactDigitsOfWrong)

/-- 'laws.FnExactEasiestNonce': WHATEVER THE INPUT: true; the input reads as it did. -/
def fnExactEasiestNonceSpec : ChangeSpec := { name := "fnExactEasiestNonce", fn := fun _ => fun
  | [d1, d2, d3, d4] => { results := [.lit (.bool true)], args := [d1, d2, d3, d4] }
  | _ => none }
def fnExactEasiestNonceRow : OpenClaim := { program := "ytbeigbkkecboiaa", sum := "bdde2932220a91347e71020b3091c2996a30fce1e0708a53e5dabfbef9e5e2b3", func := "loop.example/g00143/laws.FnExactEasiestNonce", spec := "fnExactEasiestNonce", unfollowed := true, recurses := true, apart := false }
def FnExactEasiestNonceSaid : Prop := fnExactEasiestNonceRow.holds Try.pinned (OpenSpec.ofChange fnExactEasiestNonceSpec)

/-- ITS FALSE NEIGHBOUR: 'it returns false'. Refute it at one input. -/
def fnExactEasiestNonceWrong : ChangeSpec := { name := "fnExactEasiestNonce", fn := fun _ => fun
  | [d1, d2, d3, d4] => { results := [.lit (.bool false)], args := [d1, d2, d3, d4] }
  | _ => none }
def FnExactEasiestNonceWrongFalsely : Prop := fnExactEasiestNonceRow.holds Try.pinned (OpenSpec.ofChange fnExactEasiestNonceWrong)

/-- 'laws.FnExactChainStep': WHATEVER THE INPUT: true; the input reads as it did. -/
def fnExactChainStepSpec : ChangeSpec := { name := "fnExactChainStep", fn := fun _ => fun
  | [d1, d2] => { results := [.lit (.bool true)], args := [d1, d2] }
  | _ => none }
def fnExactChainStepRow : OpenClaim := { program := "ytbeigbkkecboiaa", sum := "bdde2932220a91347e71020b3091c2996a30fce1e0708a53e5dabfbef9e5e2b3", func := "loop.example/g00143/laws.FnExactChainStep", spec := "fnExactChainStep", unfollowed := true, recurses := true, apart := false }
def FnExactChainStepSaid : Prop := fnExactChainStepRow.holds Try.pinned (OpenSpec.ofChange fnExactChainStepSpec)

/-- ITS FALSE NEIGHBOUR: 'it returns false'. Refute it at one input. -/
def fnExactChainStepWrong : ChangeSpec := { name := "fnExactChainStep", fn := fun _ => fun
  | [d1, d2] => { results := [.lit (.bool false)], args := [d1, d2] }
  | _ => none }
def FnExactChainStepWrongFalsely : Prop := fnExactChainStepRow.holds Try.pinned (OpenSpec.ofChange fnExactChainStepWrong)

/-- 'laws.FnExactSecretOf': WHATEVER THE INPUT: true; the input reads as it did. -/
def fnExactSecretOfSpec : ChangeSpec := { name := "fnExactSecretOf", fn := fun _ => fun
  | [d1, d2, d3] => { results := [.lit (.bool true)], args := [d1, d2, d3] }
  | _ => none }
def fnExactSecretOfRow : OpenClaim := { program := "ytbeigbkkecboiaa", sum := "bdde2932220a91347e71020b3091c2996a30fce1e0708a53e5dabfbef9e5e2b3", func := "loop.example/g00143/laws.FnExactSecretOf", spec := "fnExactSecretOf", unfollowed := true, recurses := true, apart := false }
def FnExactSecretOfSaid : Prop := fnExactSecretOfRow.holds Try.pinned (OpenSpec.ofChange fnExactSecretOfSpec)

/-- ITS FALSE NEIGHBOUR: 'it returns false'. Refute it at one input. -/
def fnExactSecretOfWrong : ChangeSpec := { name := "fnExactSecretOf", fn := fun _ => fun
  | [d1, d2, d3] => { results := [.lit (.bool false)], args := [d1, d2, d3] }
  | _ => none }
def FnExactSecretOfWrongFalsely : Prop := fnExactSecretOfRow.holds Try.pinned (OpenSpec.ofChange fnExactSecretOfWrong)

/-- 'laws.FnNonces': WHATEVER THE INPUT: true; the input reads as it did. -/
def fnNoncesSpec : ChangeSpec := { name := "fnNonces", fn := fun _ => fun
  | [d] => { results := [.lit (.bool true)], args := [d] }
  | _ => none }
def fnNoncesRow : OpenClaim := { program := "ytbeigbkkecboiaa", sum := "bdde2932220a91347e71020b3091c2996a30fce1e0708a53e5dabfbef9e5e2b3", func := "loop.example/g00143/laws.FnNonces", spec := "fnNonces", unfollowed := true, recurses := true, apart := false }
def FnNoncesSaid : Prop := fnNoncesRow.holds Try.pinned (OpenSpec.ofChange fnNoncesSpec)

/-- ITS FALSE NEIGHBOUR: 'it returns false'. Refute it at one input. -/
def fnNoncesWrong : ChangeSpec := { name := "fnNonces", fn := fun _ => fun
  | [d] => { results := [.lit (.bool false)], args := [d] }
  | _ => none }
def FnNoncesWrongFalsely : Prop := fnNoncesRow.holds Try.pinned (OpenSpec.ofChange fnNoncesWrong)

/- THE SECOND FORM. 'bulk': how many values and letters a reading holds, each counted each time it is reached (what is shared counts as often as it is met; a slice's spare places count too). A statement '..UptoSaid' is the law's where the arguments, and the package variables that the reading takes, are together of bulk at most 1048576: NARROWER than '..Said'. Prove '..Said' where nothing that the law and all that it calls make is longer than what came in: it says more and counts as full. Else prove '..UptoSaid'. A law counts once. -/
mutual
def uptoBulk {H : Type} : DataW H → Nat
  | .lit (.string bytes) => bytes.length + 1
  | .lit _ => 1
  | .nil => 1
  | .ptr d => uptoBulk d + 1
  | .slice elems spare => uptoBulkAll elems + uptoBulkAll spare + 1
  | .agg parts => uptoBulkAll parts + 1
  | .iface _ d => uptoBulk d + 1
  | .map entries => uptoBulkEntries entries + 1
  | .held _ => 1
def uptoBulkAll {H : Type} : List (DataW H) → Nat
  | [] => 0
  | d :: r => uptoBulk d + uptoBulkAll r
def uptoBulkEntries {H : Type} : List (Lit × DataW H) → Nat
  | [] => 0
  | x :: r => uptoBulkEntry x + uptoBulkEntries r
def uptoBulkEntry {H : Type} : Lit × DataW H → Nat
  | (.string bytes, d) => bytes.length + uptoBulk d + 1
  | (_, d) => uptoBulk d + 1
 end
def uptoSmall : (H : Type) → List (DataW H) → Bool := fun _ ds => decide (uptoBulkAll ds ≤ 1048576)
def OpenSpec.upto (s : _root_.Go.ChangeSpec) : _root_.Go.OpenSpec := { _root_.Go.OpenSpec.ofChange s with cond := some uptoSmall }

/-- 'laws.FnExactMixRound', WHERE WHAT IT READS IS OF BULK AT MOST 1048576: true; the input reads as it did. -/
def fnExactMixRoundUptoRow : OpenClaim := { program := "ytbeigbkkecboiaa", sum := "bdde2932220a91347e71020b3091c2996a30fce1e0708a53e5dabfbef9e5e2b3", func := "loop.example/g00143/laws.FnExactMixRound", spec := "fnExactMixRound", unfollowed := true, recurses := true, apart := false, narrowed := true }
def FnExactMixRoundUptoSaid : Prop := fnExactMixRoundUptoRow.holds Try.pinned (OpenSpec.upto fnExactMixRoundSpec)

/-- 'laws.FnDigits', WHERE WHAT IT READS IS OF BULK AT MOST 1048576: true; the input reads as it did. -/
def fnDigitsUptoRow : OpenClaim := { program := "ytbeigbkkecboiaa", sum := "bdde2932220a91347e71020b3091c2996a30fce1e0708a53e5dabfbef9e5e2b3", func := "loop.example/g00143/laws.FnDigits", spec := "fnDigits", unfollowed := true, recurses := true, apart := false, narrowed := true }
def FnDigitsUptoSaid : Prop := fnDigitsUptoRow.holds Try.pinned (OpenSpec.upto fnDigitsSpec)

/-- 'laws.FnDigests', WHERE WHAT IT READS IS OF BULK AT MOST 1048576: true; the input reads as it did. -/
def fnDigestsUptoRow : OpenClaim := { program := "ytbeigbkkecboiaa", sum := "bdde2932220a91347e71020b3091c2996a30fce1e0708a53e5dabfbef9e5e2b3", func := "loop.example/g00143/laws.FnDigests", spec := "fnDigests", unfollowed := true, recurses := true, apart := false, narrowed := true }
def FnDigestsUptoSaid : Prop := fnDigestsUptoRow.holds Try.pinned (OpenSpec.upto fnDigestsSpec)

/-- 'laws.FnExactDigest', WHERE WHAT IT READS IS OF BULK AT MOST 1048576: true; the input reads as it did. -/
def fnExactDigestUptoRow : OpenClaim := { program := "ytbeigbkkecboiaa", sum := "bdde2932220a91347e71020b3091c2996a30fce1e0708a53e5dabfbef9e5e2b3", func := "loop.example/g00143/laws.FnExactDigest", spec := "fnExactDigest", unfollowed := true, recurses := true, apart := false, narrowed := true }
def FnExactDigestUptoSaid : Prop := fnExactDigestUptoRow.holds Try.pinned (OpenSpec.upto fnExactDigestSpec)

/-- 'laws.FnExactTaggedDigest', WHERE WHAT IT READS IS OF BULK AT MOST 1048576: true; the input reads as it did. -/
def fnExactTaggedDigestUptoRow : OpenClaim := { program := "ytbeigbkkecboiaa", sum := "bdde2932220a91347e71020b3091c2996a30fce1e0708a53e5dabfbef9e5e2b3", func := "loop.example/g00143/laws.FnExactTaggedDigest", spec := "fnExactTaggedDigest", unfollowed := true, recurses := true, apart := false, narrowed := true }
def FnExactTaggedDigestUptoSaid : Prop := fnExactTaggedDigestUptoRow.holds Try.pinned (OpenSpec.upto fnExactTaggedDigestSpec)

/-- 'laws.FnExactLeafDigest', WHERE WHAT IT READS IS OF BULK AT MOST 1048576: true; the input reads as it did. -/
def fnExactLeafDigestUptoRow : OpenClaim := { program := "ytbeigbkkecboiaa", sum := "bdde2932220a91347e71020b3091c2996a30fce1e0708a53e5dabfbef9e5e2b3", func := "loop.example/g00143/laws.FnExactLeafDigest", spec := "fnExactLeafDigest", unfollowed := true, recurses := true, apart := false, narrowed := true }
def FnExactLeafDigestUptoSaid : Prop := fnExactLeafDigestUptoRow.holds Try.pinned (OpenSpec.upto fnExactLeafDigestSpec)

/-- 'laws.FnExactNodeDigest', WHERE WHAT IT READS IS OF BULK AT MOST 1048576: true; the input reads as it did. -/
def fnExactNodeDigestUptoRow : OpenClaim := { program := "ytbeigbkkecboiaa", sum := "bdde2932220a91347e71020b3091c2996a30fce1e0708a53e5dabfbef9e5e2b3", func := "loop.example/g00143/laws.FnExactNodeDigest", spec := "fnExactNodeDigest", unfollowed := true, recurses := true, apart := false, narrowed := true }
def FnExactNodeDigestUptoSaid : Prop := fnExactNodeDigestUptoRow.holds Try.pinned (OpenSpec.upto fnExactNodeDigestSpec)

/-- 'laws.FnChains', WHERE WHAT IT READS IS OF BULK AT MOST 1048576: true; the input reads as it did. -/
def fnChainsUptoRow : OpenClaim := { program := "ytbeigbkkecboiaa", sum := "bdde2932220a91347e71020b3091c2996a30fce1e0708a53e5dabfbef9e5e2b3", func := "loop.example/g00143/laws.FnChains", spec := "fnChains", unfollowed := true, recurses := true, apart := false, narrowed := true }
def FnChainsUptoSaid : Prop := fnChainsUptoRow.holds Try.pinned (OpenSpec.upto fnChainsSpec)

/-- 'laws.FnExactDigitsOf', WHERE WHAT IT READS IS OF BULK AT MOST 1048576: true; the input reads as it did. -/
def fnExactDigitsOfUptoRow : OpenClaim := { program := "ytbeigbkkecboiaa", sum := "bdde2932220a91347e71020b3091c2996a30fce1e0708a53e5dabfbef9e5e2b3", func := "loop.example/g00143/laws.FnExactDigitsOf", spec := "fnExactDigitsOf", unfollowed := true, recurses := true, apart := false, narrowed := true }
def FnExactDigitsOfUptoSaid : Prop := fnExactDigitsOfUptoRow.holds Try.pinned (OpenSpec.upto fnExactDigitsOfSpec)

/-- 'laws.FnExactEasiestNonce', WHERE WHAT IT READS IS OF BULK AT MOST 1048576: true; the input reads as it did. -/
def fnExactEasiestNonceUptoRow : OpenClaim := { program := "ytbeigbkkecboiaa", sum := "bdde2932220a91347e71020b3091c2996a30fce1e0708a53e5dabfbef9e5e2b3", func := "loop.example/g00143/laws.FnExactEasiestNonce", spec := "fnExactEasiestNonce", unfollowed := true, recurses := true, apart := false, narrowed := true }
def FnExactEasiestNonceUptoSaid : Prop := fnExactEasiestNonceUptoRow.holds Try.pinned (OpenSpec.upto fnExactEasiestNonceSpec)

/-- 'laws.FnExactChainStep', WHERE WHAT IT READS IS OF BULK AT MOST 1048576: true; the input reads as it did. -/
def fnExactChainStepUptoRow : OpenClaim := { program := "ytbeigbkkecboiaa", sum := "bdde2932220a91347e71020b3091c2996a30fce1e0708a53e5dabfbef9e5e2b3", func := "loop.example/g00143/laws.FnExactChainStep", spec := "fnExactChainStep", unfollowed := true, recurses := true, apart := false, narrowed := true }
def FnExactChainStepUptoSaid : Prop := fnExactChainStepUptoRow.holds Try.pinned (OpenSpec.upto fnExactChainStepSpec)

/-- 'laws.FnExactSecretOf', WHERE WHAT IT READS IS OF BULK AT MOST 1048576: true; the input reads as it did. -/
def fnExactSecretOfUptoRow : OpenClaim := { program := "ytbeigbkkecboiaa", sum := "bdde2932220a91347e71020b3091c2996a30fce1e0708a53e5dabfbef9e5e2b3", func := "loop.example/g00143/laws.FnExactSecretOf", spec := "fnExactSecretOf", unfollowed := true, recurses := true, apart := false, narrowed := true }
def FnExactSecretOfUptoSaid : Prop := fnExactSecretOfUptoRow.holds Try.pinned (OpenSpec.upto fnExactSecretOfSpec)

/-- 'laws.FnNonces', WHERE WHAT IT READS IS OF BULK AT MOST 1048576: true; the input reads as it did. -/
def fnNoncesUptoRow : OpenClaim := { program := "ytbeigbkkecboiaa", sum := "bdde2932220a91347e71020b3091c2996a30fce1e0708a53e5dabfbef9e5e2b3", func := "loop.example/g00143/laws.FnNonces", spec := "fnNonces", unfollowed := true, recurses := true, apart := false, narrowed := true }
def FnNoncesUptoSaid : Prop := fnNoncesUptoRow.holds Try.pinned (OpenSpec.upto fnNoncesSpec)

end Rows
end Go.Proofs.Ytbeigbkkecboiaa
