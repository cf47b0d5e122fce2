/-
  No cell of these rows narrows 'for every input' (looked for: loops, veiled, ifaces, maps, wideKeys, modest, calm, conditions, laid).
  DERIVED. THE GIVEN ROWS OF THIS SEAT. 11 by the template 'for every input the law returns true; each argument reads behind the call as it read before'; 0 by the template 'total and deterministic' (their statements: YtlnppbcifenanaaTotals.lean).
  GIVEN WITH THE SEED: the statements are not yours to turn. If you find one false, say at which input.
  Laid BY PROGRAM, IN A SANDBOX (cutbox-rows.mjs): the forced cells as the released guide's own fill.sh prints them over the translation 27377eadcfdd6937… (all of the seat's roots in one cut). By AI agents, Wed Nov 11 2026. No macro, syntax, notation, axiom, sorry.
-/
import Derived.Test.YtlnppbcifenanaaChecked
import GoSem.Claim
import GoSem.ClaimJoined
import GoSem.ClaimMapViews
import Derived.JoinedTies
import Derived.KernelRfl
namespace Go.Proofs.Ytlnppbcifenanaa
/- THE CELL 'sum', in the pinned program and in every row, IS THE sha256 OF THE DUMP (.gsa) THAT YtlnppbcifenanaaProg.lean LOADS. Nothing in Lean hashes anything: it is a label: what it is worth is what the hold of that sum in a sandbox is worth. -/
noncomputable def Try.pinned : Pinned := { name := "ytlnppbcifenanaa", sum := "27377eadcfdd6937c8ae630b433429d1a74704fed2a782b0d305c9bf5f24c115", checked := Try.checked }
namespace Rows
def none {H : Type} : Left H := { results := [], args := [] }

/-- 'laws.FnExactConstants': WHATEVER THE INPUT: true; the input reads as it did. -/
def fnExactConstantsSpec : ChangeSpec := { name := "fnExactConstants", fn := fun _ => fun
  | [] => { results := [.lit (.bool true)], args := [] }
  | _ => none }
def fnExactConstantsRow : OpenClaim := { program := "ytlnppbcifenanaa", sum := "27377eadcfdd6937c8ae630b433429d1a74704fed2a782b0d305c9bf5f24c115", func := "loop.example/g00143/laws.FnExactConstants", spec := "fnExactConstants", apart := false }
def FnExactConstantsSaid : Prop := fnExactConstantsRow.holds Try.pinned (OpenSpec.ofChange fnExactConstantsSpec)

/-- ITS FALSE NEIGHBOUR: 'it returns false'. Refute it at one input. -/
def fnExactConstantsWrong : ChangeSpec := { name := "fnExactConstants", fn := fun _ => fun
  | [] => { results := [.lit (.bool false)], args := [] }
  | _ => none }
def FnExactConstantsWrongFalsely : Prop := fnExactConstantsRow.holds Try.pinned (OpenSpec.ofChange fnExactConstantsWrong)

/-- 'laws.FnExactWorkOf': WHATEVER THE INPUT: true; the input reads as it did. -/
def fnExactWorkOfSpec : ChangeSpec := { name := "fnExactWorkOf", fn := fun _ => fun
  | [d] => { results := [.lit (.bool true)], args := [d] }
  | _ => none }
def fnExactWorkOfRow : OpenClaim := { program := "ytlnppbcifenanaa", sum := "27377eadcfdd6937c8ae630b433429d1a74704fed2a782b0d305c9bf5f24c115", func := "loop.example/g00143/laws.FnExactWorkOf", spec := "fnExactWorkOf", apart := false }
def FnExactWorkOfSaid : Prop := fnExactWorkOfRow.holds Try.pinned (OpenSpec.ofChange fnExactWorkOfSpec)

/-- ITS FALSE NEIGHBOUR: 'it returns false'. Refute it at one input. -/
def fnExactWorkOfWrong : ChangeSpec := { name := "fnExactWorkOf", fn := fun _ => fun
  | [d] => { results := [.lit (.bool false)], args := [d] }
  | _ => none }
def FnExactWorkOfWrongFalsely : Prop := fnExactWorkOfRow.holds Try.pinned (OpenSpec.ofChange fnExactWorkOfWrong)

/-- 'laws.FnExactHexOf': WHATEVER THE INPUT: true; the input reads as it did. -/
def fnExactHexOfSpec : ChangeSpec := { name := "fnExactHexOf", fn := fun _ => fun
  | [d] => { results := [.lit (.bool true)], args := [d] }
  | _ => none }
def fnExactHexOfRow : OpenClaim := { program := "ytlnppbcifenanaa", sum := "27377eadcfdd6937c8ae630b433429d1a74704fed2a782b0d305c9bf5f24c115", func := "loop.example/g00143/laws.FnExactHexOf", spec := "fnExactHexOf", apart := false }
def FnExactHexOfSaid : Prop := fnExactHexOfRow.holds Try.pinned (OpenSpec.ofChange fnExactHexOfSpec)

/-- ITS FALSE NEIGHBOUR: 'it returns false'. Refute it at one input. -/
def fnExactHexOfWrong : ChangeSpec := { name := "fnExactHexOf", fn := fun _ => fun
  | [d] => { results := [.lit (.bool false)], args := [d] }
  | _ => none }
def FnExactHexOfWrongFalsely : Prop := fnExactHexOfRow.holds Try.pinned (OpenSpec.ofChange fnExactHexOfWrong)

/-- 'laws.FnExactCompareBytes': WHATEVER THE INPUT: true; the input reads as it did. -/
def fnExactCompareBytesSpec : ChangeSpec := { name := "fnExactCompareBytes", fn := fun _ => fun
  | [d1, d2] => { results := [.lit (.bool true)], args := [d1, d2] }
  | _ => none }
def fnExactCompareBytesRow : OpenClaim := { program := "ytlnppbcifenanaa", sum := "27377eadcfdd6937c8ae630b433429d1a74704fed2a782b0d305c9bf5f24c115", func := "loop.example/g00143/laws.FnExactCompareBytes", spec := "fnExactCompareBytes", inPlace := ["internal/bytealg.Compare"], apart := false }
def FnExactCompareBytesSaid : Prop := fnExactCompareBytesRow.holds Try.pinned (OpenSpec.ofChange fnExactCompareBytesSpec)

/-- ITS FALSE NEIGHBOUR: 'it returns false'. Refute it at one input. -/
def fnExactCompareBytesWrong : ChangeSpec := { name := "fnExactCompareBytes", fn := fun _ => fun
  | [d1, d2] => { results := [.lit (.bool false)], args := [d1, d2] }
  | _ => none }
def FnExactCompareBytesWrongFalsely : Prop := fnExactCompareBytesRow.holds Try.pinned (OpenSpec.ofChange fnExactCompareBytesWrong)

/-- 'laws.FnExactSameBytes': WHATEVER THE INPUT: true; the input reads as it did. -/
def fnExactSameBytesSpec : ChangeSpec := { name := "fnExactSameBytes", fn := fun _ => fun
  | [d1, d2] => { results := [.lit (.bool true)], args := [d1, d2] }
  | _ => none }
def fnExactSameBytesRow : OpenClaim := { program := "ytlnppbcifenanaa", sum := "27377eadcfdd6937c8ae630b433429d1a74704fed2a782b0d305c9bf5f24c115", func := "loop.example/g00143/laws.FnExactSameBytes", spec := "fnExactSameBytes", apart := false }
def FnExactSameBytesSaid : Prop := fnExactSameBytesRow.holds Try.pinned (OpenSpec.ofChange fnExactSameBytesSpec)

/-- ITS FALSE NEIGHBOUR: 'it returns false'. Refute it at one input. -/
def fnExactSameBytesWrong : ChangeSpec := { name := "fnExactSameBytes", fn := fun _ => fun
  | [d1, d2] => { results := [.lit (.bool false)], args := [d1, d2] }
  | _ => none }
def FnExactSameBytesWrongFalsely : Prop := fnExactSameBytesRow.holds Try.pinned (OpenSpec.ofChange fnExactSameBytesWrong)

/-- 'laws.FnExactZerosOf': WHATEVER THE INPUT: true; the input reads as it did. -/
def fnExactZerosOfSpec : ChangeSpec := { name := "fnExactZerosOf", fn := fun _ => fun
  | [d] => { results := [.lit (.bool true)], args := [d] }
  | _ => none }
def fnExactZerosOfRow : OpenClaim := { program := "ytlnppbcifenanaa", sum := "27377eadcfdd6937c8ae630b433429d1a74704fed2a782b0d305c9bf5f24c115", func := "loop.example/g00143/laws.FnExactZerosOf", spec := "fnExactZerosOf", apart := false }
def FnExactZerosOfSaid : Prop := fnExactZerosOfRow.holds Try.pinned (OpenSpec.ofChange fnExactZerosOfSpec)

/-- ITS FALSE NEIGHBOUR: 'it returns false'. Refute it at one input. -/
def fnExactZerosOfWrong : ChangeSpec := { name := "fnExactZerosOf", fn := fun _ => fun
  | [d] => { results := [.lit (.bool false)], args := [d] }
  | _ => none }
def FnExactZerosOfWrongFalsely : Prop := fnExactZerosOfRow.holds Try.pinned (OpenSpec.ofChange fnExactZerosOfWrong)

/-- 'laws.FnExactNumberOf': WHATEVER THE INPUT: true; the input reads as it did. -/
def fnExactNumberOfSpec : ChangeSpec := { name := "fnExactNumberOf", fn := fun _ => fun
  | [d] => { results := [.lit (.bool true)], args := [d] }
  | _ => none }
def fnExactNumberOfRow : OpenClaim := { program := "ytlnppbcifenanaa", sum := "27377eadcfdd6937c8ae630b433429d1a74704fed2a782b0d305c9bf5f24c115", func := "loop.example/g00143/laws.FnExactNumberOf", spec := "fnExactNumberOf", apart := false }
def FnExactNumberOfSaid : Prop := fnExactNumberOfRow.holds Try.pinned (OpenSpec.ofChange fnExactNumberOfSpec)

/-- ITS FALSE NEIGHBOUR: 'it returns false'. Refute it at one input. -/
def fnExactNumberOfWrong : ChangeSpec := { name := "fnExactNumberOf", fn := fun _ => fun
  | [d] => { results := [.lit (.bool false)], args := [d] }
  | _ => none }
def FnExactNumberOfWrongFalsely : Prop := fnExactNumberOfRow.holds Try.pinned (OpenSpec.ofChange fnExactNumberOfWrong)

/-- 'laws.FnExactPathLength': WHATEVER THE INPUT: true; the input reads as it did. -/
def fnExactPathLengthSpec : ChangeSpec := { name := "fnExactPathLength", fn := fun _ => fun
  | [d1, d2] => { results := [.lit (.bool true)], args := [d1, d2] }
  | _ => none }
def fnExactPathLengthRow : OpenClaim := { program := "ytlnppbcifenanaa", sum := "27377eadcfdd6937c8ae630b433429d1a74704fed2a782b0d305c9bf5f24c115", func := "loop.example/g00143/laws.FnExactPathLength", spec := "fnExactPathLength", recurses := true, apart := false }
def FnExactPathLengthSaid : Prop := fnExactPathLengthRow.holds Try.pinned (OpenSpec.ofChange fnExactPathLengthSpec)

/-- ITS FALSE NEIGHBOUR: 'it returns false'. Refute it at one input. -/
def fnExactPathLengthWrong : ChangeSpec := { name := "fnExactPathLength", fn := fun _ => fun
  | [d1, d2] => { results := [.lit (.bool false)], args := [d1, d2] }
  | _ => none }
def FnExactPathLengthWrongFalsely : Prop := fnExactPathLengthRow.holds Try.pinned (OpenSpec.ofChange fnExactPathLengthWrong)

/-- 'laws.FnExactPutNumber': WHATEVER THE INPUT: true; the input reads as it did. -/
def fnExactPutNumberSpec : ChangeSpec := { name := "fnExactPutNumber", fn := fun _ => fun
  | [d] => { results := [.lit (.bool true)], args := [d] }
  | _ => none }
def fnExactPutNumberRow : OpenClaim := { program := "ytlnppbcifenanaa", sum := "27377eadcfdd6937c8ae630b433429d1a74704fed2a782b0d305c9bf5f24c115", func := "loop.example/g00143/laws.FnExactPutNumber", spec := "fnExactPutNumber", apart := false }
def FnExactPutNumberSaid : Prop := fnExactPutNumberRow.holds Try.pinned (OpenSpec.ofChange fnExactPutNumberSpec)

/-- ITS FALSE NEIGHBOUR: 'it returns false'. Refute it at one input. -/
def fnExactPutNumberWrong : ChangeSpec := { name := "fnExactPutNumber", fn := fun _ => fun
  | [d] => { results := [.lit (.bool false)], args := [d] }
  | _ => none }
def FnExactPutNumberWrongFalsely : Prop := fnExactPutNumberRow.holds Try.pinned (OpenSpec.ofChange fnExactPutNumberWrong)

/-- 'laws.FnExactMixRound': WHATEVER THE INPUT: true; the input reads as it did. -/
def fnExactMixRoundSpec : ChangeSpec := { name := "fnExactMixRound", fn := fun _ => fun
  | [d1, d2, d3] => { results := [.lit (.bool true)], args := [d1, d2, d3] }
  | _ => none }
def fnExactMixRoundRow : OpenClaim := { program := "ytlnppbcifenanaa", sum := "27377eadcfdd6937c8ae630b433429d1a74704fed2a782b0d305c9bf5f24c115", func := "loop.example/g00143/laws.FnExactMixRound", spec := "fnExactMixRound", unfollowed := true, recurses := true, apart := false }
def FnExactMixRoundSaid : Prop := fnExactMixRoundRow.holds Try.pinned (OpenSpec.ofChange fnExactMixRoundSpec)

/-- ITS FALSE NEIGHBOUR: 'it returns false'. Refute it at one input. -/
def fnExactMixRoundWrong : ChangeSpec := { name := "fnExactMixRound", fn := fun _ => fun
  | [d1, d2, d3] => { results := [.lit (.bool false)], args := [d1, d2, d3] }
  | _ => none }
def FnExactMixRoundWrongFalsely : Prop := fnExactMixRoundRow.holds Try.pinned (OpenSpec.ofChange fnExactMixRoundWrong)

/-- 'laws.FnExactHeadBFault': WHATEVER THE INPUT: true; the input reads as it did. -/
def fnExactHeadBFaultSpec : ChangeSpec := { name := "fnExactHeadBFault", fn := fun _ => fun
  | [d] => { results := [.lit (.bool true)], args := [d] }
  | _ => none }
def fnExactHeadBFaultRow : OpenClaim := { program := "ytlnppbcifenanaa", sum := "27377eadcfdd6937c8ae630b433429d1a74704fed2a782b0d305c9bf5f24c115", func := "loop.example/g00143/laws.FnExactHeadBFault", spec := "fnExactHeadBFault", unfollowed := true, recurses := true, apart := false }
def FnExactHeadBFaultSaid : Prop := fnExactHeadBFaultRow.holds Try.pinned (OpenSpec.ofChange fnExactHeadBFaultSpec)

/-- ITS FALSE NEIGHBOUR: 'it returns false'. Refute it at one input. -/
def fnExactHeadBFaultWrong : ChangeSpec := { name := "fnExactHeadBFault", fn := fun _ => fun
  | [d] => { results := [.lit (.bool false)], args := [d] }
  | _ => none }
def FnExactHeadBFaultWrongFalsely : Prop := fnExactHeadBFaultRow.holds Try.pinned (OpenSpec.ofChange fnExactHeadBFaultWrong)

/- THE SECOND FORM. 'bulk': how many values and letters a reading holds, each counted each time it is reached (what is shared counts as often as it is met; a slice's spare places count too). A statement '..UptoSaid' is the law's where the arguments, and the package variables that the reading takes, are together of bulk at most 1048576: NARROWER than '..Said'. Prove '..Said' where nothing that the law and all that it calls make is longer than what came in: it says more and counts as full. Else prove '..UptoSaid'. A law counts once. -/
mutual
def uptoBulk {H : Type} : DataW H → Nat
  | .lit (.string bytes) => bytes.length + 1
  | .lit _ => 1
  | .nil => 1
  | .ptr d => uptoBulk d + 1
  | .slice elems spare => uptoBulkAll elems + uptoBulkAll spare + 1
  | .agg parts => uptoBulkAll parts + 1
  | .iface _ d => uptoBulk d + 1
  | .map entries => uptoBulkEntries entries + 1
  | .held _ => 1
def uptoBulkAll {H : Type} : List (DataW H) → Nat
  | [] => 0
  | d :: r => uptoBulk d + uptoBulkAll r
def uptoBulkEntries {H : Type} : List (Lit × DataW H) → Nat
  | [] => 0
  | x :: r => uptoBulkEntry x + uptoBulkEntries r
def uptoBulkEntry {H : Type} : Lit × DataW H → Nat
  | (.string bytes, d) => bytes.length + uptoBulk d + 1
  | (_, d) => uptoBulk d + 1
 end
def uptoSmall : (H : Type) → List (DataW H) → Bool := fun _ ds => decide (uptoBulkAll ds ≤ 1048576)
def OpenSpec.upto (s : _root_.Go.ChangeSpec) : _root_.Go.OpenSpec := { _root_.Go.OpenSpec.ofChange s with cond := some uptoSmall }

/-- 'laws.FnExactConstants', WHERE WHAT IT READS IS OF BULK AT MOST 1048576: true; the input reads as it did. -/
def fnExactConstantsUptoRow : OpenClaim := { program := "ytlnppbcifenanaa", sum := "27377eadcfdd6937c8ae630b433429d1a74704fed2a782b0d305c9bf5f24c115", func := "loop.example/g00143/laws.FnExactConstants", spec := "fnExactConstants", apart := false, narrowed := true }
def FnExactConstantsUptoSaid : Prop := fnExactConstantsUptoRow.holds Try.pinned (OpenSpec.upto fnExactConstantsSpec)

/-- 'laws.FnExactWorkOf', WHERE WHAT IT READS IS OF BULK AT MOST 1048576: true; the input reads as it did. -/
def fnExactWorkOfUptoRow : OpenClaim := { program := "ytlnppbcifenanaa", sum := "27377eadcfdd6937c8ae630b433429d1a74704fed2a782b0d305c9bf5f24c115", func := "loop.example/g00143/laws.FnExactWorkOf", spec := "fnExactWorkOf", apart := false, narrowed := true }
def FnExactWorkOfUptoSaid : Prop := fnExactWorkOfUptoRow.holds Try.pinned (OpenSpec.upto fnExactWorkOfSpec)

/-- 'laws.FnExactHexOf', WHERE WHAT IT READS IS OF BULK AT MOST 1048576: true; the input reads as it did. -/
def fnExactHexOfUptoRow : OpenClaim := { program := "ytlnppbcifenanaa", sum := "27377eadcfdd6937c8ae630b433429d1a74704fed2a782b0d305c9bf5f24c115", func := "loop.example/g00143/laws.FnExactHexOf", spec := "fnExactHexOf", apart := false, narrowed := true }
def FnExactHexOfUptoSaid : Prop := fnExactHexOfUptoRow.holds Try.pinned (OpenSpec.upto fnExactHexOfSpec)

/-- 'laws.FnExactCompareBytes', WHERE WHAT IT READS IS OF BULK AT MOST 1048576: true; the input reads as it did. -/
def fnExactCompareBytesUptoRow : OpenClaim := { program := "ytlnppbcifenanaa", sum := "27377eadcfdd6937c8ae630b433429d1a74704fed2a782b0d305c9bf5f24c115", func := "loop.example/g00143/laws.FnExactCompareBytes", spec := "fnExactCompareBytes", inPlace := ["internal/bytealg.Compare"], apart := false, narrowed := true }
def FnExactCompareBytesUptoSaid : Prop := fnExactCompareBytesUptoRow.holds Try.pinned (OpenSpec.upto fnExactCompareBytesSpec)

/-- 'laws.FnExactSameBytes', WHERE WHAT IT READS IS OF BULK AT MOST 1048576: true; the input reads as it did. -/
def fnExactSameBytesUptoRow : OpenClaim := { program := "ytlnppbcifenanaa", sum := "27377eadcfdd6937c8ae630b433429d1a74704fed2a782b0d305c9bf5f24c115", func := "loop.example/g00143/laws.FnExactSameBytes", spec := "fnExactSameBytes", apart := false, narrowed := true }
def FnExactSameBytesUptoSaid : Prop := fnExactSameBytesUptoRow.holds Try.pinned (OpenSpec.upto fnExactSameBytesSpec)

/-- 'laws.FnExactZerosOf', WHERE WHAT IT READS IS OF BULK AT MOST 1048576: true; the input reads as it did. -/
def fnExactZerosOfUptoRow : OpenClaim := { program := "ytlnppbcifenanaa", sum := "27377eadcfdd6937c8ae630b433429d1a74704fed2a782b0d305c9bf5f24c115", func := "loop.example/g00143/laws.FnExactZerosOf", spec := "fnExactZerosOf", apart := false, narrowed := true }
def FnExactZerosOfUptoSaid : Prop := fnExactZerosOfUptoRow.holds Try.pinned (OpenSpec.upto fnExactZerosOfSpec)

/-- 'laws.FnExactNumberOf', WHERE WHAT IT READS IS OF BULK AT MOST 1048576: true; the input reads as it did. -/
def fnExactNumberOfUptoRow : OpenClaim := { program := "ytlnppbcifenanaa", sum := "27377eadcfdd6937c8ae630b433429d1a74704fed2a782b0d305c9bf5f24c115", func := "loop.example/g00143/laws.FnExactNumberOf", spec := "fnExactNumberOf", apart := false, narrowed := true }
def FnExactNumberOfUptoSaid : Prop := fnExactNumberOfUptoRow.holds Try.pinned (OpenSpec.upto fnExactNumberOfSpec)

/-- 'laws.FnExactPathLength', WHERE WHAT IT READS IS OF BULK AT MOST 1048576: true; the input reads as it did. -/
def fnExactPathLengthUptoRow : OpenClaim := { program := "ytlnppbcifenanaa", sum := "27377eadcfdd6937c8ae630b433429d1a74704fed2a782b0d305c9bf5f24c115", func := "loop.example/g00143/laws.FnExactPathLength", spec := "fnExactPathLength", recurses := true, apart := false, narrowed := true }
def FnExactPathLengthUptoSaid : Prop := fnExactPathLengthUptoRow.holds Try.pinned (OpenSpec.upto fnExactPathLengthSpec)

/-- 'laws.FnExactPutNumber', WHERE WHAT IT READS IS OF BULK AT MOST 1048576: true; the input reads as it did. -/
def fnExactPutNumberUptoRow : OpenClaim := { program := "ytlnppbcifenanaa", sum := "27377eadcfdd6937c8ae630b433429d1a74704fed2a782b0d305c9bf5f24c115", func := "loop.example/g00143/laws.FnExactPutNumber", spec := "fnExactPutNumber", apart := false, narrowed := true }
def FnExactPutNumberUptoSaid : Prop := fnExactPutNumberUptoRow.holds Try.pinned (OpenSpec.upto fnExactPutNumberSpec)

/-- 'laws.FnExactMixRound', WHERE WHAT IT READS IS OF BULK AT MOST 1048576: true; the input reads as it did. -/
def fnExactMixRoundUptoRow : OpenClaim := { program := "ytlnppbcifenanaa", sum := "27377eadcfdd6937c8ae630b433429d1a74704fed2a782b0d305c9bf5f24c115", func := "loop.example/g00143/laws.FnExactMixRound", spec := "fnExactMixRound", unfollowed := true, recurses := true, apart := false, narrowed := true }
def FnExactMixRoundUptoSaid : Prop := fnExactMixRoundUptoRow.holds Try.pinned (OpenSpec.upto fnExactMixRoundSpec)

/-- 'laws.FnExactHeadBFault', WHERE WHAT IT READS IS OF BULK AT MOST 1048576: true; the input reads as it did. -/
def fnExactHeadBFaultUptoRow : OpenClaim := { program := "ytlnppbcifenanaa", sum := "27377eadcfdd6937c8ae630b433429d1a74704fed2a782b0d305c9bf5f24c115", func := "loop.example/g00143/laws.FnExactHeadBFault", spec := "fnExactHeadBFault", unfollowed := true, recurses := true, apart := false, narrowed := true }
def FnExactHeadBFaultUptoSaid : Prop := fnExactHeadBFaultUptoRow.holds Try.pinned (OpenSpec.upto fnExactHeadBFaultSpec)

end Rows
end Go.Proofs.Ytlnppbcifenanaa
