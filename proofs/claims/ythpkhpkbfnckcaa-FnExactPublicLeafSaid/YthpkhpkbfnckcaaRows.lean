/-
  No cell of these rows narrows 'for every input' (looked for: loops, veiled, ifaces, maps, wideKeys, modest, calm, conditions, laid).
  DERIVED. THE GIVEN ROWS OF THIS SEAT. 14 by the template 'for every input the law returns true; each argument reads behind the call as it read before'; 0 by the template 'total and deterministic' (their statements: YthpkhpkbfnckcaaTotals.lean).
  GIVEN WITH THE SEED: the statements are not yours to turn. If you find one false, say at which input.
  Laid BY PROGRAM, IN A SANDBOX (cutbox-rows.mjs): the forced cells as the released guide's own fill.sh prints them over the translation 75b43dddec62ad57… (all of the seat's roots in one cut). By AI agents, Wed Nov 11 2026. No macro, syntax, notation, axiom, sorry.
-/
import Derived.Test.YthpkhpkbfnckcaaChecked
import GoSem.Claim
import GoSem.ClaimJoined
import GoSem.ClaimMapViews
import Derived.JoinedTies
import Derived.KernelRfl
namespace Go.Proofs.Ythpkhpkbfnckcaa
/- THE CELL 'sum', in the pinned program and in every row, IS THE sha256 OF THE DUMP (.gsa) THAT YthpkhpkbfnckcaaProg.lean LOADS. Nothing in Lean hashes anything: it is a label: what it is worth is what the hold of that sum in a sandbox is worth. -/
noncomputable def Try.pinned : Pinned := { name := "ythpkhpkbfnckcaa", sum := "75b43dddec62ad57f04319be1113d06a3c16f84d066da78a18342506caea31d6", checked := Try.checked }
namespace Rows
def none {H : Type} : Left H := { results := [], args := [] }

/-- 'laws.FnProofs': WHATEVER THE INPUT: true; the input reads as it did. -/
def fnProofsSpec : ChangeSpec := { name := "fnProofs", fn := fun _ => fun
  | [d] => { results := [.lit (.bool true)], args := [d] }
  | _ => none }
def fnProofsRow : OpenClaim := { program := "ythpkhpkbfnckcaa", sum := "75b43dddec62ad57f04319be1113d06a3c16f84d066da78a18342506caea31d6", func := "loop.example/g00143/laws.FnProofs", spec := "fnProofs", unfollowed := true, recurses := true, apart := false }
def FnProofsSaid : Prop := fnProofsRow.holds Try.pinned (OpenSpec.ofChange fnProofsSpec)

/-- ITS FALSE NEIGHBOUR: 'it returns false'. Refute it at one input. -/
def fnProofsWrong : ChangeSpec := { name := "fnProofs", fn := fun _ => fun
  | [d] => { results := [.lit (.bool false)], args := [d] }
  | _ => none }
def FnProofsWrongFalsely : Prop := fnProofsRow.holds Try.pinned (OpenSpec.ofChange fnProofsWrong)

/-- 'laws.FnExactSignMessage': WHATEVER THE INPUT: true; the input reads as it did. -/
def fnExactSignMessageSpec : ChangeSpec := { name := "fnExactSignMessage", fn := fun _ => fun
  | [d1, d2, d3] => { results := [.lit (.bool true)], args := [d1, d2, d3] }
  | _ => none }
def fnExactSignMessageRow : OpenClaim := { program := "ythpkhpkbfnckcaa", sum := "75b43dddec62ad57f04319be1113d06a3c16f84d066da78a18342506caea31d6", func := "loop.example/g00143/laws.FnExactSignMessage", spec := "fnExactSignMessage", unfollowed := true, recurses := true, apart := false }
def FnExactSignMessageSaid : Prop := fnExactSignMessageRow.holds Try.pinned (OpenSpec.ofChange fnExactSignMessageSpec)

/-- ITS FALSE NEIGHBOUR: 'it returns false'. Refute it at one input. -/
def fnExactSignMessageWrong : ChangeSpec := { name := "fnExactSignMessage", fn := fun _ => fun
  | [d1, d2, d3] => { results := [.lit (.bool false)], args := [d1, d2, d3] }
  | _ => none }
def FnExactSignMessageWrongFalsely : Prop := fnExactSignMessageRow.holds Try.pinned (OpenSpec.ofChange fnExactSignMessageWrong)

/-- 'laws.FnExactPublicLeaf': WHATEVER THE INPUT: true; the input reads as it did. -/
def fnExactPublicLeafSpec : ChangeSpec := { name := "fnExactPublicLeaf", fn := fun _ => fun
  | [d1, d2] => { results := [.lit (.bool true)], args := [d1, d2] }
  | _ => none }
def fnExactPublicLeafRow : OpenClaim := { program := "ythpkhpkbfnckcaa", sum := "75b43dddec62ad57f04319be1113d06a3c16f84d066da78a18342506caea31d6", func := "loop.example/g00143/laws.FnExactPublicLeaf", spec := "fnExactPublicLeaf", unfollowed := true, recurses := true, apart := false }
def FnExactPublicLeafSaid : Prop := fnExactPublicLeafRow.holds Try.pinned (OpenSpec.ofChange fnExactPublicLeafSpec)

/-- ITS FALSE NEIGHBOUR: 'it returns false'. Refute it at one input. -/
def fnExactPublicLeafWrong : ChangeSpec := { name := "fnExactPublicLeaf", fn := fun _ => fun
  | [d1, d2] => { results := [.lit (.bool false)], args := [d1, d2] }
  | _ => none }
def FnExactPublicLeafWrongFalsely : Prop := fnExactPublicLeafRow.holds Try.pinned (OpenSpec.ofChange fnExactPublicLeafWrong)

/-- 'laws.FnExactKeyRoot': WHATEVER THE INPUT: true; the input reads as it did. -/
def fnExactKeyRootSpec : ChangeSpec := { name := "fnExactKeyRoot", fn := fun _ => fun
  | [d] => { results := [.lit (.bool true)], args := [d] }
  | _ => none }
def fnExactKeyRootRow : OpenClaim := { program := "ythpkhpkbfnckcaa", sum := "75b43dddec62ad57f04319be1113d06a3c16f84d066da78a18342506caea31d6", func := "loop.example/g00143/laws.FnExactKeyRoot", spec := "fnExactKeyRoot", unfollowed := true, recurses := true, apart := false }
def FnExactKeyRootSaid : Prop := fnExactKeyRootRow.holds Try.pinned (OpenSpec.ofChange fnExactKeyRootSpec)

/-- ITS FALSE NEIGHBOUR: 'it returns false'. Refute it at one input. -/
def fnExactKeyRootWrong : ChangeSpec := { name := "fnExactKeyRoot", fn := fun _ => fun
  | [d] => { results := [.lit (.bool false)], args := [d] }
  | _ => none }
def FnExactKeyRootWrongFalsely : Prop := fnExactKeyRootRow.holds Try.pinned (OpenSpec.ofChange fnExactKeyRootWrong)

/-- 'laws.FnExactRootOf': WHATEVER THE INPUT: true; the input reads as it did. -/
def fnExactRootOfSpec : ChangeSpec := { name := "fnExactRootOf", fn := fun _ => fun
  | [d] => { results := [.lit (.bool true)], args := [d] }
  | _ => none }
def fnExactRootOfRow : OpenClaim := { program := "ythpkhpkbfnckcaa", sum := "75b43dddec62ad57f04319be1113d06a3c16f84d066da78a18342506caea31d6", func := "loop.example/g00143/laws.FnExactRootOf", spec := "fnExactRootOf", unfollowed := true, recurses := true, apart := false }
def FnExactRootOfSaid : Prop := fnExactRootOfRow.holds Try.pinned (OpenSpec.ofChange fnExactRootOfSpec)

/-- ITS FALSE NEIGHBOUR: 'it returns false'. Refute it at one input. -/
def fnExactRootOfWrong : ChangeSpec := { name := "fnExactRootOf", fn := fun _ => fun
  | [d] => { results := [.lit (.bool false)], args := [d] }
  | _ => none }
def FnExactRootOfWrongFalsely : Prop := fnExactRootOfRow.holds Try.pinned (OpenSpec.ofChange fnExactRootOfWrong)

/-- 'laws.FnExactCheckProof': WHATEVER THE INPUT: true; the input reads as it did. -/
def fnExactCheckProofSpec : ChangeSpec := { name := "fnExactCheckProof", fn := fun _ => fun
  | [d1, d2, d3] => { results := [.lit (.bool true)], args := [d1, d2, d3] }
  | _ => none }
def fnExactCheckProofRow : OpenClaim := { program := "ythpkhpkbfnckcaa", sum := "75b43dddec62ad57f04319be1113d06a3c16f84d066da78a18342506caea31d6", func := "loop.example/g00143/laws.FnExactCheckProof", spec := "fnExactCheckProof", unfollowed := true, recurses := true, apart := false }
def FnExactCheckProofSaid : Prop := fnExactCheckProofRow.holds Try.pinned (OpenSpec.ofChange fnExactCheckProofSpec)

/-- ITS FALSE NEIGHBOUR: 'it returns false'. Refute it at one input. -/
def fnExactCheckProofWrong : ChangeSpec := { name := "fnExactCheckProof", fn := fun _ => fun
  | [d1, d2, d3] => { results := [.lit (.bool false)], args := [d1, d2, d3] }
  | _ => none }
def FnExactCheckProofWrongFalsely : Prop := fnExactCheckProofRow.holds Try.pinned (OpenSpec.ofChange fnExactCheckProofWrong)

/-- 'laws.FnProofTexts': WHATEVER THE INPUT: true; the input reads as it did. -/
def fnProofTextsSpec : ChangeSpec := { name := "fnProofTexts", fn := fun _ => fun
  | [d] => { results := [.lit (.bool true)], args := [d] }
  | _ => none }
def fnProofTextsRow : OpenClaim := { program := "ythpkhpkbfnckcaa", sum := "75b43dddec62ad57f04319be1113d06a3c16f84d066da78a18342506caea31d6", func := "loop.example/g00143/laws.FnProofTexts", spec := "fnProofTexts", unfollowed := true, recurses := true, apart := false }
def FnProofTextsSaid : Prop := fnProofTextsRow.holds Try.pinned (OpenSpec.ofChange fnProofTextsSpec)

/-- ITS FALSE NEIGHBOUR: 'it returns false'. Refute it at one input. -/
def fnProofTextsWrong : ChangeSpec := { name := "fnProofTexts", fn := fun _ => fun
  | [d] => { results := [.lit (.bool false)], args := [d] }
  | _ => none }
def FnProofTextsWrongFalsely : Prop := fnProofTextsRow.holds Try.pinned (OpenSpec.ofChange fnProofTextsWrong)

/-- 'laws.FnExactProveLeaf': WHATEVER THE INPUT: true; the input reads as it did. -/
def fnExactProveLeafSpec : ChangeSpec := { name := "fnExactProveLeaf", fn := fun _ => fun
  | [d1, d2] => { results := [.lit (.bool true)], args := [d1, d2] }
  | _ => none }
def fnExactProveLeafRow : OpenClaim := { program := "ythpkhpkbfnckcaa", sum := "75b43dddec62ad57f04319be1113d06a3c16f84d066da78a18342506caea31d6", func := "loop.example/g00143/laws.FnExactProveLeaf", spec := "fnExactProveLeaf", unfollowed := true, recurses := true, apart := false }
def FnExactProveLeafSaid : Prop := fnExactProveLeafRow.holds Try.pinned (OpenSpec.ofChange fnExactProveLeafSpec)

/-- ITS FALSE NEIGHBOUR: 'it returns false'. Refute it at one input. -/
def fnExactProveLeafWrong : ChangeSpec := { name := "fnExactProveLeaf", fn := fun _ => fun
  | [d1, d2] => { results := [.lit (.bool false)], args := [d1, d2] }
  | _ => none }
def FnExactProveLeafWrongFalsely : Prop := fnExactProveLeafRow.holds Try.pinned (OpenSpec.ofChange fnExactProveLeafWrong)

/-- 'laws.FnExactHeadDigest': WHATEVER THE INPUT: true; the input reads as it did. -/
def fnExactHeadDigestSpec : ChangeSpec := { name := "fnExactHeadDigest", fn := fun _ => fun
  | [d] => { results := [.lit (.bool true)], args := [d] }
  | _ => none }
def fnExactHeadDigestRow : OpenClaim := { program := "ythpkhpkbfnckcaa", sum := "75b43dddec62ad57f04319be1113d06a3c16f84d066da78a18342506caea31d6", func := "loop.example/g00143/laws.FnExactHeadDigest", spec := "fnExactHeadDigest", unfollowed := true, recurses := true, apart := false }
def FnExactHeadDigestSaid : Prop := fnExactHeadDigestRow.holds Try.pinned (OpenSpec.ofChange fnExactHeadDigestSpec)

/-- ITS FALSE NEIGHBOUR: 'it returns false'. Refute it at one input. -/
def fnExactHeadDigestWrong : ChangeSpec := { name := "fnExactHeadDigest", fn := fun _ => fun
  | [d] => { results := [.lit (.bool false)], args := [d] }
  | _ => none }
def FnExactHeadDigestWrongFalsely : Prop := fnExactHeadDigestRow.holds Try.pinned (OpenSpec.ofChange fnExactHeadDigestWrong)

/-- 'laws.FnExactHeadBDigest': WHATEVER THE INPUT: true; the input reads as it did. -/
def fnExactHeadBDigestSpec : ChangeSpec := { name := "fnExactHeadBDigest", fn := fun _ => fun
  | [d] => { results := [.lit (.bool true)], args := [d] }
  | _ => none }
def fnExactHeadBDigestRow : OpenClaim := { program := "ythpkhpkbfnckcaa", sum := "75b43dddec62ad57f04319be1113d06a3c16f84d066da78a18342506caea31d6", func := "loop.example/g00143/laws.FnExactHeadBDigest", spec := "fnExactHeadBDigest", unfollowed := true, recurses := true, apart := false }
def FnExactHeadBDigestSaid : Prop := fnExactHeadBDigestRow.holds Try.pinned (OpenSpec.ofChange fnExactHeadBDigestSpec)

/-- ITS FALSE NEIGHBOUR: 'it returns false'. Refute it at one input. -/
def fnExactHeadBDigestWrong : ChangeSpec := { name := "fnExactHeadBDigest", fn := fun _ => fun
  | [d] => { results := [.lit (.bool false)], args := [d] }
  | _ => none }
def FnExactHeadBDigestWrongFalsely : Prop := fnExactHeadBDigestRow.holds Try.pinned (OpenSpec.ofChange fnExactHeadBDigestWrong)

/-- 'laws.FnExactFirstBlock': WHATEVER THE INPUT: true; the input reads as it did. -/
def fnExactFirstBlockSpec : ChangeSpec := { name := "fnExactFirstBlock", fn := fun _ => fun
  | [d] => { results := [.lit (.bool true)], args := [d] }
  | _ => none }
def fnExactFirstBlockRow : OpenClaim := { program := "ythpkhpkbfnckcaa", sum := "75b43dddec62ad57f04319be1113d06a3c16f84d066da78a18342506caea31d6", func := "loop.example/g00143/laws.FnExactFirstBlock", spec := "fnExactFirstBlock", unfollowed := true, recurses := true, apart := false }
def FnExactFirstBlockSaid : Prop := fnExactFirstBlockRow.holds Try.pinned (OpenSpec.ofChange fnExactFirstBlockSpec)

/-- ITS FALSE NEIGHBOUR: 'it returns false'. Refute it at one input. -/
def fnExactFirstBlockWrong : ChangeSpec := { name := "fnExactFirstBlock", fn := fun _ => fun
  | [d] => { results := [.lit (.bool false)], args := [d] }
  | _ => none }
def FnExactFirstBlockWrongFalsely : Prop := fnExactFirstBlockRow.holds Try.pinned (OpenSpec.ofChange fnExactFirstBlockWrong)

/-- 'laws.FnExactSetDigest': WHATEVER THE INPUT: true; the input reads as it did. -/
def fnExactSetDigestSpec : ChangeSpec := { name := "fnExactSetDigest", fn := fun _ => fun
  | [d] => { results := [.lit (.bool true)], args := [d] }
  | _ => none }
def fnExactSetDigestRow : OpenClaim := { program := "ythpkhpkbfnckcaa", sum := "75b43dddec62ad57f04319be1113d06a3c16f84d066da78a18342506caea31d6", func := "loop.example/g00143/laws.FnExactSetDigest", spec := "fnExactSetDigest", unfollowed := true, recurses := true, apart := false }
def FnExactSetDigestSaid : Prop := fnExactSetDigestRow.holds Try.pinned (OpenSpec.ofChange fnExactSetDigestSpec)

/-- ITS FALSE NEIGHBOUR: 'it returns false'. Refute it at one input. -/
def fnExactSetDigestWrong : ChangeSpec := { name := "fnExactSetDigest", fn := fun _ => fun
  | [d] => { results := [.lit (.bool false)], args := [d] }
  | _ => none }
def FnExactSetDigestWrongFalsely : Prop := fnExactSetDigestRow.holds Try.pinned (OpenSpec.ofChange fnExactSetDigestWrong)

/-- 'laws.FnExactPackSign': WHATEVER THE INPUT: true; the input reads as it did. -/
def fnExactPackSignSpec : ChangeSpec := { name := "fnExactPackSign", fn := fun _ => fun
  | [d] => { results := [.lit (.bool true)], args := [d] }
  | _ => none }
def fnExactPackSignRow : OpenClaim := { program := "ythpkhpkbfnckcaa", sum := "75b43dddec62ad57f04319be1113d06a3c16f84d066da78a18342506caea31d6", func := "loop.example/g00143/laws.FnExactPackSign", spec := "fnExactPackSign", unfollowed := true, recurses := true, apart := false }
def FnExactPackSignSaid : Prop := fnExactPackSignRow.holds Try.pinned (OpenSpec.ofChange fnExactPackSignSpec)

/-- ITS FALSE NEIGHBOUR: 'it returns false'. Refute it at one input. -/
def fnExactPackSignWrong : ChangeSpec := { name := "fnExactPackSign", fn := fun _ => fun
  | [d] => { results := [.lit (.bool false)], args := [d] }
  | _ => none }
def FnExactPackSignWrongFalsely : Prop := fnExactPackSignRow.holds Try.pinned (OpenSpec.ofChange fnExactPackSignWrong)

/-- 'laws.FnExactUnpackSign': WHATEVER THE INPUT: true; the input reads as it did. -/
def fnExactUnpackSignSpec : ChangeSpec := { name := "fnExactUnpackSign", fn := fun _ => fun
  | [d] => { results := [.lit (.bool true)], args := [d] }
  | _ => none }
def fnExactUnpackSignRow : OpenClaim := { program := "ythpkhpkbfnckcaa", sum := "75b43dddec62ad57f04319be1113d06a3c16f84d066da78a18342506caea31d6", func := "loop.example/g00143/laws.FnExactUnpackSign", spec := "fnExactUnpackSign", unfollowed := true, recurses := true, apart := false }
def FnExactUnpackSignSaid : Prop := fnExactUnpackSignRow.holds Try.pinned (OpenSpec.ofChange fnExactUnpackSignSpec)

/-- ITS FALSE NEIGHBOUR: 'it returns false'. Refute it at one input. -/
def fnExactUnpackSignWrong : ChangeSpec := { name := "fnExactUnpackSign", fn := fun _ => fun
  | [d] => { results := [.lit (.bool false)], args := [d] }
  | _ => none }
def FnExactUnpackSignWrongFalsely : Prop := fnExactUnpackSignRow.holds Try.pinned (OpenSpec.ofChange fnExactUnpackSignWrong)

/- THE SECOND FORM. 'bulk': how many values and letters a reading holds, each counted each time it is reached (what is shared counts as often as it is met; a slice's spare places count too). A statement '..UptoSaid' is the law's where the arguments, and the package variables that the reading takes, are together of bulk at most 1048576: NARROWER than '..Said'. Prove '..Said' where nothing that the law and all that it calls make is longer than what came in: it says more and counts as full. Else prove '..UptoSaid'. A law counts once. -/
mutual
def uptoBulk {H : Type} : DataW H → Nat
  | .lit (.string bytes) => bytes.length + 1
  | .lit _ => 1
  | .nil => 1
  | .ptr d => uptoBulk d + 1
  | .slice elems spare => uptoBulkAll elems + uptoBulkAll spare + 1
  | .agg parts => uptoBulkAll parts + 1
  | .iface _ d => uptoBulk d + 1
  | .map entries => uptoBulkEntries entries + 1
  | .held _ => 1
def uptoBulkAll {H : Type} : List (DataW H) → Nat
  | [] => 0
  | d :: r => uptoBulk d + uptoBulkAll r
def uptoBulkEntries {H : Type} : List (Lit × DataW H) → Nat
  | [] => 0
  | x :: r => uptoBulkEntry x + uptoBulkEntries r
def uptoBulkEntry {H : Type} : Lit × DataW H → Nat
  | (.string bytes, d) => bytes.length + uptoBulk d + 1
  | (_, d) => uptoBulk d + 1
 end
def uptoSmall : (H : Type) → List (DataW H) → Bool := fun _ ds => decide (uptoBulkAll ds ≤ 1048576)
def OpenSpec.upto (s : _root_.Go.ChangeSpec) : _root_.Go.OpenSpec := { _root_.Go.OpenSpec.ofChange s with cond := some uptoSmall }

/-- 'laws.FnProofs', WHERE WHAT IT READS IS OF BULK AT MOST 1048576: true; the input reads as it did. -/
def fnProofsUptoRow : OpenClaim := { program := "ythpkhpkbfnckcaa", sum := "75b43dddec62ad57f04319be1113d06a3c16f84d066da78a18342506caea31d6", func := "loop.example/g00143/laws.FnProofs", spec := "fnProofs", unfollowed := true, recurses := true, apart := false, narrowed := true }
def FnProofsUptoSaid : Prop := fnProofsUptoRow.holds Try.pinned (OpenSpec.upto fnProofsSpec)

/-- 'laws.FnExactSignMessage', WHERE WHAT IT READS IS OF BULK AT MOST 1048576: true; the input reads as it did. -/
def fnExactSignMessageUptoRow : OpenClaim := { program := "ythpkhpkbfnckcaa", sum := "75b43dddec62ad57f04319be1113d06a3c16f84d066da78a18342506caea31d6", func := "loop.example/g00143/laws.FnExactSignMessage", spec := "fnExactSignMessage", unfollowed := true, recurses := true, apart := false, narrowed := true }
def FnExactSignMessageUptoSaid : Prop := fnExactSignMessageUptoRow.holds Try.pinned (OpenSpec.upto fnExactSignMessageSpec)

/-- 'laws.FnExactPublicLeaf', WHERE WHAT IT READS IS OF BULK AT MOST 1048576: true; the input reads as it did. -/
def fnExactPublicLeafUptoRow : OpenClaim := { program := "ythpkhpkbfnckcaa", sum := "75b43dddec62ad57f04319be1113d06a3c16f84d066da78a18342506caea31d6", func := "loop.example/g00143/laws.FnExactPublicLeaf", spec := "fnExactPublicLeaf", unfollowed := true, recurses := true, apart := false, narrowed := true }
def FnExactPublicLeafUptoSaid : Prop := fnExactPublicLeafUptoRow.holds Try.pinned (OpenSpec.upto fnExactPublicLeafSpec)

/-- 'laws.FnExactKeyRoot', WHERE WHAT IT READS IS OF BULK AT MOST 1048576: true; the input reads as it did. -/
def fnExactKeyRootUptoRow : OpenClaim := { program := "ythpkhpkbfnckcaa", sum := "75b43dddec62ad57f04319be1113d06a3c16f84d066da78a18342506caea31d6", func := "loop.example/g00143/laws.FnExactKeyRoot", spec := "fnExactKeyRoot", unfollowed := true, recurses := true, apart := false, narrowed := true }
def FnExactKeyRootUptoSaid : Prop := fnExactKeyRootUptoRow.holds Try.pinned (OpenSpec.upto fnExactKeyRootSpec)

/-- 'laws.FnExactRootOf', WHERE WHAT IT READS IS OF BULK AT MOST 1048576: true; the input reads as it did. -/
def fnExactRootOfUptoRow : OpenClaim := { program := "ythpkhpkbfnckcaa", sum := "75b43dddec62ad57f04319be1113d06a3c16f84d066da78a18342506caea31d6", func := "loop.example/g00143/laws.FnExactRootOf", spec := "fnExactRootOf", unfollowed := true, recurses := true, apart := false, narrowed := true }
def FnExactRootOfUptoSaid : Prop := fnExactRootOfUptoRow.holds Try.pinned (OpenSpec.upto fnExactRootOfSpec)

/-- 'laws.FnExactCheckProof', WHERE WHAT IT READS IS OF BULK AT MOST 1048576: true; the input reads as it did. -/
def fnExactCheckProofUptoRow : OpenClaim := { program := "ythpkhpkbfnckcaa", sum := "75b43dddec62ad57f04319be1113d06a3c16f84d066da78a18342506caea31d6", func := "loop.example/g00143/laws.FnExactCheckProof", spec := "fnExactCheckProof", unfollowed := true, recurses := true, apart := false, narrowed := true }
def FnExactCheckProofUptoSaid : Prop := fnExactCheckProofUptoRow.holds Try.pinned (OpenSpec.upto fnExactCheckProofSpec)

/-- 'laws.FnProofTexts', WHERE WHAT IT READS IS OF BULK AT MOST 1048576: true; the input reads as it did. -/
def fnProofTextsUptoRow : OpenClaim := { program := "ythpkhpkbfnckcaa", sum := "75b43dddec62ad57f04319be1113d06a3c16f84d066da78a18342506caea31d6", func := "loop.example/g00143/laws.FnProofTexts", spec := "fnProofTexts", unfollowed := true, recurses := true, apart := false, narrowed := true }
def FnProofTextsUptoSaid : Prop := fnProofTextsUptoRow.holds Try.pinned (OpenSpec.upto fnProofTextsSpec)

/-- 'laws.FnExactProveLeaf', WHERE WHAT IT READS IS OF BULK AT MOST 1048576: true; the input reads as it did. -/
def fnExactProveLeafUptoRow : OpenClaim := { program := "ythpkhpkbfnckcaa", sum := "75b43dddec62ad57f04319be1113d06a3c16f84d066da78a18342506caea31d6", func := "loop.example/g00143/laws.FnExactProveLeaf", spec := "fnExactProveLeaf", unfollowed := true, recurses := true, apart := false, narrowed := true }
def FnExactProveLeafUptoSaid : Prop := fnExactProveLeafUptoRow.holds Try.pinned (OpenSpec.upto fnExactProveLeafSpec)

/-- 'laws.FnExactHeadDigest', WHERE WHAT IT READS IS OF BULK AT MOST 1048576: true; the input reads as it did. -/
def fnExactHeadDigestUptoRow : OpenClaim := { program := "ythpkhpkbfnckcaa", sum := "75b43dddec62ad57f04319be1113d06a3c16f84d066da78a18342506caea31d6", func := "loop.example/g00143/laws.FnExactHeadDigest", spec := "fnExactHeadDigest", unfollowed := true, recurses := true, apart := false, narrowed := true }
def FnExactHeadDigestUptoSaid : Prop := fnExactHeadDigestUptoRow.holds Try.pinned (OpenSpec.upto fnExactHeadDigestSpec)

/-- 'laws.FnExactHeadBDigest', WHERE WHAT IT READS IS OF BULK AT MOST 1048576: true; the input reads as it did. -/
def fnExactHeadBDigestUptoRow : OpenClaim := { program := "ythpkhpkbfnckcaa", sum := "75b43dddec62ad57f04319be1113d06a3c16f84d066da78a18342506caea31d6", func := "loop.example/g00143/laws.FnExactHeadBDigest", spec := "fnExactHeadBDigest", unfollowed := true, recurses := true, apart := false, narrowed := true }
def FnExactHeadBDigestUptoSaid : Prop := fnExactHeadBDigestUptoRow.holds Try.pinned (OpenSpec.upto fnExactHeadBDigestSpec)

/-- 'laws.FnExactFirstBlock', WHERE WHAT IT READS IS OF BULK AT MOST 1048576: true; the input reads as it did. -/
def fnExactFirstBlockUptoRow : OpenClaim := { program := "ythpkhpkbfnckcaa", sum := "75b43dddec62ad57f04319be1113d06a3c16f84d066da78a18342506caea31d6", func := "loop.example/g00143/laws.FnExactFirstBlock", spec := "fnExactFirstBlock", unfollowed := true, recurses := true, apart := false, narrowed := true }
def FnExactFirstBlockUptoSaid : Prop := fnExactFirstBlockUptoRow.holds Try.pinned (OpenSpec.upto fnExactFirstBlockSpec)

/-- 'laws.FnExactSetDigest', WHERE WHAT IT READS IS OF BULK AT MOST 1048576: true; the input reads as it did. -/
def fnExactSetDigestUptoRow : OpenClaim := { program := "ythpkhpkbfnckcaa", sum := "75b43dddec62ad57f04319be1113d06a3c16f84d066da78a18342506caea31d6", func := "loop.example/g00143/laws.FnExactSetDigest", spec := "fnExactSetDigest", unfollowed := true, recurses := true, apart := false, narrowed := true }
def FnExactSetDigestUptoSaid : Prop := fnExactSetDigestUptoRow.holds Try.pinned (OpenSpec.upto fnExactSetDigestSpec)

/-- 'laws.FnExactPackSign', WHERE WHAT IT READS IS OF BULK AT MOST 1048576: true; the input reads as it did. -/
def fnExactPackSignUptoRow : OpenClaim := { program := "ythpkhpkbfnckcaa", sum := "75b43dddec62ad57f04319be1113d06a3c16f84d066da78a18342506caea31d6", func := "loop.example/g00143/laws.FnExactPackSign", spec := "fnExactPackSign", unfollowed := true, recurses := true, apart := false, narrowed := true }
def FnExactPackSignUptoSaid : Prop := fnExactPackSignUptoRow.holds Try.pinned (OpenSpec.upto fnExactPackSignSpec)

/-- 'laws.FnExactUnpackSign', WHERE WHAT IT READS IS OF BULK AT MOST 1048576: true; the input reads as it did. -/
def fnExactUnpackSignUptoRow : OpenClaim := { program := "ythpkhpkbfnckcaa", sum := "75b43dddec62ad57f04319be1113d06a3c16f84d066da78a18342506caea31d6", func := "loop.example/g00143/laws.FnExactUnpackSign", spec := "fnExactUnpackSign", unfollowed := true, recurses := true, apart := false, narrowed := true }
def FnExactUnpackSignUptoSaid : Prop := fnExactUnpackSignUptoRow.holds Try.pinned (OpenSpec.upto fnExactUnpackSignSpec)

end Rows
end Go.Proofs.Ythpkhpkbfnckcaa
