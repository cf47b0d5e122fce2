/-
  No cell of these rows narrows 'for every input' (looked for: loops, veiled, ifaces, maps, wideKeys, modest, calm, conditions, laid).
  DERIVED. THE GIVEN ROWS OF THIS SEAT. 13 by the template 'for every input the law returns true; each argument reads behind the call as it read before'; 0 by the template 'total and deterministic' (their statements: YtmmhghddldhogaaTotals.lean).
  GIVEN WITH THE SEED: the statements are not yours to turn. If you find one false, say at which input.
  Laid BY PROGRAM, IN A SANDBOX (cutbox-rows.mjs): the forced cells as the released guide's own fill.sh prints them over the translation 0b5653668bf68c83… (all of the seat's roots in one cut). By AI agents, Wed Nov 11 2026. No macro, syntax, notation, axiom, sorry.
-/
import Derived.Test.YtmmhghddldhogaaChecked
import GoSem.Claim
import GoSem.ClaimJoined
import GoSem.ClaimMapViews
import Derived.JoinedTies
import Derived.KernelRfl
namespace Go.Proofs.Ytmmhghddldhogaa
/- THE CELL 'sum', in the pinned program and in every row, IS THE sha256 OF THE DUMP (.gsa) THAT YtmmhghddldhogaaProg.lean LOADS. Nothing in Lean hashes anything: it is a label: what it is worth is what the hold of that sum in a sandbox is worth. -/
noncomputable def Try.pinned : Pinned := { name := "ytmmhghddldhogaa", sum := "0b5653668bf68c83243ee7dd497b519e4cc83a0af26b04678b9aace119abb108", checked := Try.checked }
namespace Rows
def none {H : Type} : Left H := { results := [], args := [] }

/-- 'laws.FnExactBytesOfHex': WHATEVER THE INPUT: true; the input reads as it did. -/
def fnExactBytesOfHexSpec : ChangeSpec := { name := "fnExactBytesOfHex", fn := fun _ => fun
  | [d] => { results := [.lit (.bool true)], args := [d] }
  | _ => none }
def fnExactBytesOfHexRow : OpenClaim := { program := "ytmmhghddldhogaa", sum := "0b5653668bf68c83243ee7dd497b519e4cc83a0af26b04678b9aace119abb108", func := "loop.example/g00143/laws.FnExactBytesOfHex", spec := "fnExactBytesOfHex", apart := false }
def FnExactBytesOfHexSaid : Prop := fnExactBytesOfHexRow.holds Try.pinned (OpenSpec.ofChange fnExactBytesOfHexSpec)

/-- ITS FALSE NEIGHBOUR: 'it returns false'. Refute it at one input. -/
def fnExactBytesOfHexWrong : ChangeSpec := { name := "fnExactBytesOfHex", fn := fun _ => fun
  | [d] => { results := [.lit (.bool false)], args := [d] }
  | _ => none }
def FnExactBytesOfHexWrongFalsely : Prop := fnExactBytesOfHexRow.holds Try.pinned (OpenSpec.ofChange fnExactBytesOfHexWrong)

/-- 'laws.FnExactHeadFault': WHATEVER THE INPUT: true; the input reads as it did. -/
def fnExactHeadFaultSpec : ChangeSpec := { name := "fnExactHeadFault", fn := fun _ => fun
  | [d] => { results := [.lit (.bool true)], args := [d] }
  | _ => none }
def fnExactHeadFaultRow : OpenClaim := { program := "ytmmhghddldhogaa", sum := "0b5653668bf68c83243ee7dd497b519e4cc83a0af26b04678b9aace119abb108", func := "loop.example/g00143/laws.FnExactHeadFault", spec := "fnExactHeadFault", unfollowed := true, recurses := true, apart := false }
def FnExactHeadFaultSaid : Prop := fnExactHeadFaultRow.holds Try.pinned (OpenSpec.ofChange fnExactHeadFaultSpec)

/-- ITS FALSE NEIGHBOUR: 'it returns false'. Refute it at one input. -/
def fnExactHeadFaultWrong : ChangeSpec := { name := "fnExactHeadFault", fn := fun _ => fun
  | [d] => { results := [.lit (.bool false)], args := [d] }
  | _ => none }
def FnExactHeadFaultWrongFalsely : Prop := fnExactHeadFaultRow.holds Try.pinned (OpenSpec.ofChange fnExactHeadFaultWrong)

/-- 'laws.FnNumbers': WHATEVER THE INPUT: true; the input reads as it did. -/
def fnNumbersSpec : ChangeSpec := { name := "fnNumbers", fn := fun _ => fun
  | [d] => { results := [.lit (.bool true)], args := [d] }
  | _ => none }
def fnNumbersRow : OpenClaim := { program := "ytmmhghddldhogaa", sum := "0b5653668bf68c83243ee7dd497b519e4cc83a0af26b04678b9aace119abb108", func := "loop.example/g00143/laws.FnNumbers", spec := "fnNumbers", inPlace := ["internal/bytealg.Compare"], apart := false }
def FnNumbersSaid : Prop := fnNumbersRow.holds Try.pinned (OpenSpec.ofChange fnNumbersSpec)

/-- ITS FALSE NEIGHBOUR: 'it returns false'. Refute it at one input. -/
def fnNumbersWrong : ChangeSpec := { name := "fnNumbers", fn := fun _ => fun
  | [d] => { results := [.lit (.bool false)], args := [d] }
  | _ => none }
def FnNumbersWrongFalsely : Prop := fnNumbersRow.holds Try.pinned (OpenSpec.ofChange fnNumbersWrong)

/-- 'laws.FnExactUnpackWords': WHATEVER THE INPUT: true; the input reads as it did. -/
def fnExactUnpackWordsSpec : ChangeSpec := { name := "fnExactUnpackWords", fn := fun _ => fun
  | [d] => { results := [.lit (.bool true)], args := [d] }
  | _ => none }
def fnExactUnpackWordsRow : OpenClaim := { program := "ytmmhghddldhogaa", sum := "0b5653668bf68c83243ee7dd497b519e4cc83a0af26b04678b9aace119abb108", func := "loop.example/g00143/laws.FnExactUnpackWords", spec := "fnExactUnpackWords", apart := false }
def FnExactUnpackWordsSaid : Prop := fnExactUnpackWordsRow.holds Try.pinned (OpenSpec.ofChange fnExactUnpackWordsSpec)

/-- ITS FALSE NEIGHBOUR: 'it returns false'. Refute it at one input. -/
def fnExactUnpackWordsWrong : ChangeSpec := { name := "fnExactUnpackWords", fn := fun _ => fun
  | [d] => { results := [.lit (.bool false)], args := [d] }
  | _ => none }
def FnExactUnpackWordsWrongFalsely : Prop := fnExactUnpackWordsRow.holds Try.pinned (OpenSpec.ofChange fnExactUnpackWordsWrong)

/-- 'laws.FnExactPackWords': WHATEVER THE INPUT: true; the input reads as it did. -/
def fnExactPackWordsSpec : ChangeSpec := { name := "fnExactPackWords", fn := fun _ => fun
  | [d] => { results := [.lit (.bool true)], args := [d] }
  | _ => none }
def fnExactPackWordsRow : OpenClaim := { program := "ytmmhghddldhogaa", sum := "0b5653668bf68c83243ee7dd497b519e4cc83a0af26b04678b9aace119abb108", func := "loop.example/g00143/laws.FnExactPackWords", spec := "fnExactPackWords", apart := false }
def FnExactPackWordsSaid : Prop := fnExactPackWordsRow.holds Try.pinned (OpenSpec.ofChange fnExactPackWordsSpec)

/-- ITS FALSE NEIGHBOUR: 'it returns false'. Refute it at one input. -/
def fnExactPackWordsWrong : ChangeSpec := { name := "fnExactPackWords", fn := fun _ => fun
  | [d] => { results := [.lit (.bool false)], args := [d] }
  | _ => none }
def FnExactPackWordsWrongFalsely : Prop := fnExactPackWordsRow.holds Try.pinned (OpenSpec.ofChange fnExactPackWordsWrong)

/-- 'laws.FnWords': WHATEVER THE INPUT: true; the input reads as it did. -/
def fnWordsSpec : ChangeSpec := { name := "fnWords", fn := fun _ => fun
  | [d] => { results := [.lit (.bool true)], args := [d] }
  | _ => none }
def fnWordsRow : OpenClaim := { program := "ytmmhghddldhogaa", sum := "0b5653668bf68c83243ee7dd497b519e4cc83a0af26b04678b9aace119abb108", func := "loop.example/g00143/laws.FnWords", spec := "fnWords", apart := false }
def FnWordsSaid : Prop := fnWordsRow.holds Try.pinned (OpenSpec.ofChange fnWordsSpec)

/-- ITS FALSE NEIGHBOUR: 'it returns false'. Refute it at one input. -/
def fnWordsWrong : ChangeSpec := { name := "fnWords", fn := fun _ => fun
  | [d] => { results := [.lit (.bool false)], args := [d] }
  | _ => none }
def FnWordsWrongFalsely : Prop := fnWordsRow.holds Try.pinned (OpenSpec.ofChange fnWordsWrong)

/-- 'laws.FnExactSetFault': WHATEVER THE INPUT: true; the input reads as it did. -/
def fnExactSetFaultSpec : ChangeSpec := { name := "fnExactSetFault", fn := fun _ => fun
  | [d] => { results := [.lit (.bool true)], args := [d] }
  | _ => none }
def fnExactSetFaultRow : OpenClaim := { program := "ytmmhghddldhogaa", sum := "0b5653668bf68c83243ee7dd497b519e4cc83a0af26b04678b9aace119abb108", func := "loop.example/g00143/laws.FnExactSetFault", spec := "fnExactSetFault", unfollowed := true, recurses := true, apart := false }
def FnExactSetFaultSaid : Prop := fnExactSetFaultRow.holds Try.pinned (OpenSpec.ofChange fnExactSetFaultSpec)

/-- ITS FALSE NEIGHBOUR: 'it returns false'. Refute it at one input. -/
def fnExactSetFaultWrong : ChangeSpec := { name := "fnExactSetFault", fn := fun _ => fun
  | [d] => { results := [.lit (.bool false)], args := [d] }
  | _ => none }
def FnExactSetFaultWrongFalsely : Prop := fnExactSetFaultRow.holds Try.pinned (OpenSpec.ofChange fnExactSetFaultWrong)

/-- 'laws.FnExactTotalPower': WHATEVER THE INPUT: true; the input reads as it did. -/
def fnExactTotalPowerSpec : ChangeSpec := { name := "fnExactTotalPower", fn := fun _ => fun
  | [d] => { results := [.lit (.bool true)], args := [d] }
  | _ => none }
def fnExactTotalPowerRow : OpenClaim := { program := "ytmmhghddldhogaa", sum := "0b5653668bf68c83243ee7dd497b519e4cc83a0af26b04678b9aace119abb108", func := "loop.example/g00143/laws.FnExactTotalPower", spec := "fnExactTotalPower", unfollowed := true, recurses := true, apart := false }
def FnExactTotalPowerSaid : Prop := fnExactTotalPowerRow.holds Try.pinned (OpenSpec.ofChange fnExactTotalPowerSpec)

/-- ITS FALSE NEIGHBOUR: 'it returns false'. Refute it at one input. -/
def fnExactTotalPowerWrong : ChangeSpec := { name := "fnExactTotalPower", fn := fun _ => fun
  | [d] => { results := [.lit (.bool false)], args := [d] }
  | _ => none }
def FnExactTotalPowerWrongFalsely : Prop := fnExactTotalPowerRow.holds Try.pinned (OpenSpec.ofChange fnExactTotalPowerWrong)

/-- 'laws.FnExactPackHead': WHATEVER THE INPUT: true; the input reads as it did. -/
def fnExactPackHeadSpec : ChangeSpec := { name := "fnExactPackHead", fn := fun _ => fun
  | [d] => { results := [.lit (.bool true)], args := [d] }
  | _ => none }
def fnExactPackHeadRow : OpenClaim := { program := "ytmmhghddldhogaa", sum := "0b5653668bf68c83243ee7dd497b519e4cc83a0af26b04678b9aace119abb108", func := "loop.example/g00143/laws.FnExactPackHead", spec := "fnExactPackHead", unfollowed := true, recurses := true, apart := false }
def FnExactPackHeadSaid : Prop := fnExactPackHeadRow.holds Try.pinned (OpenSpec.ofChange fnExactPackHeadSpec)

/-- ITS FALSE NEIGHBOUR: 'it returns false'. Refute it at one input. -/
def fnExactPackHeadWrong : ChangeSpec := { name := "fnExactPackHead", fn := fun _ => fun
  | [d] => { results := [.lit (.bool false)], args := [d] }
  | _ => none }
def FnExactPackHeadWrongFalsely : Prop := fnExactPackHeadRow.holds Try.pinned (OpenSpec.ofChange fnExactPackHeadWrong)

/-- 'laws.FnExactNextZeros': WHATEVER THE INPUT: true; the input reads as it did. -/
def fnExactNextZerosSpec : ChangeSpec := { name := "fnExactNextZeros", fn := fun _ => fun
  | [d] => { results := [.lit (.bool true)], args := [d] }
  | _ => none }
def fnExactNextZerosRow : OpenClaim := { program := "ytmmhghddldhogaa", sum := "0b5653668bf68c83243ee7dd497b519e4cc83a0af26b04678b9aace119abb108", func := "loop.example/g00143/laws.FnExactNextZeros", spec := "fnExactNextZeros", unfollowed := true, recurses := true, apart := false }
def FnExactNextZerosSaid : Prop := fnExactNextZerosRow.holds Try.pinned (OpenSpec.ofChange fnExactNextZerosSpec)

/-- ITS FALSE NEIGHBOUR: 'it returns false'. Refute it at one input. -/
def fnExactNextZerosWrong : ChangeSpec := { name := "fnExactNextZeros", fn := fun _ => fun
  | [d] => { results := [.lit (.bool false)], args := [d] }
  | _ => none }
def FnExactNextZerosWrongFalsely : Prop := fnExactNextZerosRow.holds Try.pinned (OpenSpec.ofChange fnExactNextZerosWrong)

/-- 'laws.FnExactUnpackHead': WHATEVER THE INPUT: true; the input reads as it did. -/
def fnExactUnpackHeadSpec : ChangeSpec := { name := "fnExactUnpackHead", fn := fun _ => fun
  | [d] => { results := [.lit (.bool true)], args := [d] }
  | _ => none }
def fnExactUnpackHeadRow : OpenClaim := { program := "ytmmhghddldhogaa", sum := "0b5653668bf68c83243ee7dd497b519e4cc83a0af26b04678b9aace119abb108", func := "loop.example/g00143/laws.FnExactUnpackHead", spec := "fnExactUnpackHead", unfollowed := true, recurses := true, apart := false }
def FnExactUnpackHeadSaid : Prop := fnExactUnpackHeadRow.holds Try.pinned (OpenSpec.ofChange fnExactUnpackHeadSpec)

/-- ITS FALSE NEIGHBOUR: 'it returns false'. Refute it at one input. -/
def fnExactUnpackHeadWrong : ChangeSpec := { name := "fnExactUnpackHead", fn := fun _ => fun
  | [d] => { results := [.lit (.bool false)], args := [d] }
  | _ => none }
def FnExactUnpackHeadWrongFalsely : Prop := fnExactUnpackHeadRow.holds Try.pinned (OpenSpec.ofChange fnExactUnpackHeadWrong)

/-- 'laws.FnExactPackProof': WHATEVER THE INPUT: true; the input reads as it did. -/
def fnExactPackProofSpec : ChangeSpec := { name := "fnExactPackProof", fn := fun _ => fun
  | [d] => { results := [.lit (.bool true)], args := [d] }
  | _ => none }
def fnExactPackProofRow : OpenClaim := { program := "ytmmhghddldhogaa", sum := "0b5653668bf68c83243ee7dd497b519e4cc83a0af26b04678b9aace119abb108", func := "loop.example/g00143/laws.FnExactPackProof", spec := "fnExactPackProof", unfollowed := true, recurses := true, apart := false }
def FnExactPackProofSaid : Prop := fnExactPackProofRow.holds Try.pinned (OpenSpec.ofChange fnExactPackProofSpec)

/-- ITS FALSE NEIGHBOUR: 'it returns false'. Refute it at one input. -/
def fnExactPackProofWrong : ChangeSpec := { name := "fnExactPackProof", fn := fun _ => fun
  | [d] => { results := [.lit (.bool false)], args := [d] }
  | _ => none }
def FnExactPackProofWrongFalsely : Prop := fnExactPackProofRow.holds Try.pinned (OpenSpec.ofChange fnExactPackProofWrong)

/-- 'laws.FnExactUnpackProof': WHATEVER THE INPUT: true; the input reads as it did. -/
def fnExactUnpackProofSpec : ChangeSpec := { name := "fnExactUnpackProof", fn := fun _ => fun
  | [d] => { results := [.lit (.bool true)], args := [d] }
  | _ => none }
def fnExactUnpackProofRow : OpenClaim := { program := "ytmmhghddldhogaa", sum := "0b5653668bf68c83243ee7dd497b519e4cc83a0af26b04678b9aace119abb108", func := "loop.example/g00143/laws.FnExactUnpackProof", spec := "fnExactUnpackProof", unfollowed := true, recurses := true, apart := false }
def FnExactUnpackProofSaid : Prop := fnExactUnpackProofRow.holds Try.pinned (OpenSpec.ofChange fnExactUnpackProofSpec)

/-- ITS FALSE NEIGHBOUR: 'it returns false'. Refute it at one input. -/
def fnExactUnpackProofWrong : ChangeSpec := { name := "fnExactUnpackProof", fn := fun _ => fun
  | [d] => { results := [.lit (.bool false)], args := [d] }
  | _ => none }
def FnExactUnpackProofWrongFalsely : Prop := fnExactUnpackProofRow.holds Try.pinned (OpenSpec.ofChange fnExactUnpackProofWrong)

/- THE SECOND FORM. 'bulk': how many values and letters a reading holds, each counted each time it is reached (what is shared counts as often as it is met; a slice's spare places count too). A statement '..UptoSaid' is the law's where the arguments, and the package variables that the reading takes, are together of bulk at most 1048576: NARROWER than '..Said'. Prove '..Said' where nothing that the law and all that it calls make is longer than what came in: it says more and counts as full. Else prove '..UptoSaid'. A law counts once. -/
mutual
def uptoBulk {H : Type} : DataW H → Nat
  | .lit (.string bytes) => bytes.length + 1
  | .lit _ => 1
  | .nil => 1
  | .ptr d => uptoBulk d + 1
  | .slice elems spare => uptoBulkAll elems + uptoBulkAll spare + 1
  | .agg parts => uptoBulkAll parts + 1
  | .iface _ d => uptoBulk d + 1
  | .map entries => uptoBulkEntries entries + 1
  | .held _ => 1
def uptoBulkAll {H : Type} : List (DataW H) → Nat
  | [] => 0
  | d :: r => uptoBulk d + uptoBulkAll r
def uptoBulkEntries {H : Type} : List (Lit × DataW H) → Nat
  | [] => 0
  | x :: r => uptoBulkEntry x + uptoBulkEntries r
def uptoBulkEntry {H : Type} : Lit × DataW H → Nat
  | (.string bytes, d) => bytes.length + uptoBulk d + 1
  | (_, d) => uptoBulk d + 1
 end
def uptoSmall : (H : Type) → List (DataW H) → Bool := fun _ ds => decide (uptoBulkAll ds ≤ 1048576)
def OpenSpec.upto (s : _root_.Go.ChangeSpec) : _root_.Go.OpenSpec := { _root_.Go.OpenSpec.ofChange s with cond := some uptoSmall }

/-- 'laws.FnExactBytesOfHex', WHERE WHAT IT READS IS OF BULK AT MOST 1048576: true; the input reads as it did. -/
def fnExactBytesOfHexUptoRow : OpenClaim := { program := "ytmmhghddldhogaa", sum := "0b5653668bf68c83243ee7dd497b519e4cc83a0af26b04678b9aace119abb108", func := "loop.example/g00143/laws.FnExactBytesOfHex", spec := "fnExactBytesOfHex", apart := false, narrowed := true }
def FnExactBytesOfHexUptoSaid : Prop := fnExactBytesOfHexUptoRow.holds Try.pinned (OpenSpec.upto fnExactBytesOfHexSpec)

/-- 'laws.FnExactHeadFault', WHERE WHAT IT READS IS OF BULK AT MOST 1048576: true; the input reads as it did. -/
def fnExactHeadFaultUptoRow : OpenClaim := { program := "ytmmhghddldhogaa", sum := "0b5653668bf68c83243ee7dd497b519e4cc83a0af26b04678b9aace119abb108", func := "loop.example/g00143/laws.FnExactHeadFault", spec := "fnExactHeadFault", unfollowed := true, recurses := true, apart := false, narrowed := true }
def FnExactHeadFaultUptoSaid : Prop := fnExactHeadFaultUptoRow.holds Try.pinned (OpenSpec.upto fnExactHeadFaultSpec)

/-- 'laws.FnNumbers', WHERE WHAT IT READS IS OF BULK AT MOST 1048576: true; the input reads as it did. -/
def fnNumbersUptoRow : OpenClaim := { program := "ytmmhghddldhogaa", sum := "0b5653668bf68c83243ee7dd497b519e4cc83a0af26b04678b9aace119abb108", func := "loop.example/g00143/laws.FnNumbers", spec := "fnNumbers", inPlace := ["internal/bytealg.Compare"], apart := false, narrowed := true }
def FnNumbersUptoSaid : Prop := fnNumbersUptoRow.holds Try.pinned (OpenSpec.upto fnNumbersSpec)

/-- 'laws.FnExactUnpackWords', WHERE WHAT IT READS IS OF BULK AT MOST 1048576: true; the input reads as it did. -/
def fnExactUnpackWordsUptoRow : OpenClaim := { program := "ytmmhghddldhogaa", sum := "0b5653668bf68c83243ee7dd497b519e4cc83a0af26b04678b9aace119abb108", func := "loop.example/g00143/laws.FnExactUnpackWords", spec := "fnExactUnpackWords", apart := false, narrowed := true }
def FnExactUnpackWordsUptoSaid : Prop := fnExactUnpackWordsUptoRow.holds Try.pinned (OpenSpec.upto fnExactUnpackWordsSpec)

/-- 'laws.FnExactPackWords', WHERE WHAT IT READS IS OF BULK AT MOST 1048576: true; the input reads as it did. -/
def fnExactPackWordsUptoRow : OpenClaim := { program := "ytmmhghddldhogaa", sum := "0b5653668bf68c83243ee7dd497b519e4cc83a0af26b04678b9aace119abb108", func := "loop.example/g00143/laws.FnExactPackWords", spec := "fnExactPackWords", apart := false, narrowed := true }
def FnExactPackWordsUptoSaid : Prop := fnExactPackWordsUptoRow.holds Try.pinned (OpenSpec.upto fnExactPackWordsSpec)

/-- 'laws.FnWords', WHERE WHAT IT READS IS OF BULK AT MOST 1048576: true; the input reads as it did. -/
def fnWordsUptoRow : OpenClaim := { program := "ytmmhghddldhogaa", sum := "0b5653668bf68c83243ee7dd497b519e4cc83a0af26b04678b9aace119abb108", func := "loop.example/g00143/laws.FnWords", spec := "fnWords", apart := false, narrowed := true }
def FnWordsUptoSaid : Prop := fnWordsUptoRow.holds Try.pinned (OpenSpec.upto fnWordsSpec)

/-- 'laws.FnExactSetFault', WHERE WHAT IT READS IS OF BULK AT MOST 1048576: true; the input reads as it did. -/
def fnExactSetFaultUptoRow : OpenClaim := { program := "ytmmhghddldhogaa", sum := "0b5653668bf68c83243ee7dd497b519e4cc83a0af26b04678b9aace119abb108", func := "loop.example/g00143/laws.FnExactSetFault", spec := "fnExactSetFault", unfollowed := true, recurses := true, apart := false, narrowed := true }
def FnExactSetFaultUptoSaid : Prop := fnExactSetFaultUptoRow.holds Try.pinned (OpenSpec.upto fnExactSetFaultSpec)

/-- 'laws.FnExactTotalPower', WHERE WHAT IT READS IS OF BULK AT MOST 1048576: true; the input reads as it did. -/
def fnExactTotalPowerUptoRow : OpenClaim := { program := "ytmmhghddldhogaa", sum := "0b5653668bf68c83243ee7dd497b519e4cc83a0af26b04678b9aace119abb108", func := "loop.example/g00143/laws.FnExactTotalPower", spec := "fnExactTotalPower", unfollowed := true, recurses := true, apart := false, narrowed := true }
def FnExactTotalPowerUptoSaid : Prop := fnExactTotalPowerUptoRow.holds Try.pinned (OpenSpec.upto fnExactTotalPowerSpec)

/-- 'laws.FnExactPackHead', WHERE WHAT IT READS IS OF BULK AT MOST 1048576: true; the input reads as it did. -/
def fnExactPackHeadUptoRow : OpenClaim := { program := "ytmmhghddldhogaa", sum := "0b5653668bf68c83243ee7dd497b519e4cc83a0af26b04678b9aace119abb108", func := "loop.example/g00143/laws.FnExactPackHead", spec := "fnExactPackHead", unfollowed := true, recurses := true, apart := false, narrowed := true }
def FnExactPackHeadUptoSaid : Prop := fnExactPackHeadUptoRow.holds Try.pinned (OpenSpec.upto fnExactPackHeadSpec)

/-- 'laws.FnExactNextZeros', WHERE WHAT IT READS IS OF BULK AT MOST 1048576: true; the input reads as it did. -/
def fnExactNextZerosUptoRow : OpenClaim := { program := "ytmmhghddldhogaa", sum := "0b5653668bf68c83243ee7dd497b519e4cc83a0af26b04678b9aace119abb108", func := "loop.example/g00143/laws.FnExactNextZeros", spec := "fnExactNextZeros", unfollowed := true, recurses := true, apart := false, narrowed := true }
def FnExactNextZerosUptoSaid : Prop := fnExactNextZerosUptoRow.holds Try.pinned (OpenSpec.upto fnExactNextZerosSpec)

/-- 'laws.FnExactUnpackHead', WHERE WHAT IT READS IS OF BULK AT MOST 1048576: true; the input reads as it did. -/
def fnExactUnpackHeadUptoRow : OpenClaim := { program := "ytmmhghddldhogaa", sum := "0b5653668bf68c83243ee7dd497b519e4cc83a0af26b04678b9aace119abb108", func := "loop.example/g00143/laws.FnExactUnpackHead", spec := "fnExactUnpackHead", unfollowed := true, recurses := true, apart := false, narrowed := true }
def FnExactUnpackHeadUptoSaid : Prop := fnExactUnpackHeadUptoRow.holds Try.pinned (OpenSpec.upto fnExactUnpackHeadSpec)

/-- 'laws.FnExactPackProof', WHERE WHAT IT READS IS OF BULK AT MOST 1048576: true; the input reads as it did. -/
def fnExactPackProofUptoRow : OpenClaim := { program := "ytmmhghddldhogaa", sum := "0b5653668bf68c83243ee7dd497b519e4cc83a0af26b04678b9aace119abb108", func := "loop.example/g00143/laws.FnExactPackProof", spec := "fnExactPackProof", unfollowed := true, recurses := true, apart := false, narrowed := true }
def FnExactPackProofUptoSaid : Prop := fnExactPackProofUptoRow.holds Try.pinned (OpenSpec.upto fnExactPackProofSpec)

/-- 'laws.FnExactUnpackProof', WHERE WHAT IT READS IS OF BULK AT MOST 1048576: true; the input reads as it did. -/
def fnExactUnpackProofUptoRow : OpenClaim := { program := "ytmmhghddldhogaa", sum := "0b5653668bf68c83243ee7dd497b519e4cc83a0af26b04678b9aace119abb108", func := "loop.example/g00143/laws.FnExactUnpackProof", spec := "fnExactUnpackProof", unfollowed := true, recurses := true, apart := false, narrowed := true }
def FnExactUnpackProofUptoSaid : Prop := fnExactUnpackProofUptoRow.holds Try.pinned (OpenSpec.upto fnExactUnpackProofSpec)

end Rows
end Go.Proofs.Ytmmhghddldhogaa
