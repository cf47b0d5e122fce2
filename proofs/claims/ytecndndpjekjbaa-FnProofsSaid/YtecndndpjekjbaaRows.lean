/-
  No cell of these rows narrows 'for every input' (looked for: loops, veiled, ifaces, maps, wideKeys, modest, calm, conditions, laid).
  DERIVED. THE GIVEN ROWS OF THIS SEAT. 6 by the template 'for every input the law returns true; each argument reads behind the call as it read before'; 0 by the template 'total and deterministic' (their statements: YtecndndpjekjbaaTotals.lean).
  GIVEN WITH THE SEED: the statements are not yours to turn. If you find one false, say at which input.
  Laid BY PROGRAM, IN A SANDBOX (cutbox-rows.mjs): the forced cells as the released guide's own fill.sh prints them over the translation bb0de1179a8f4aea… (all of the seat's roots in one cut). By AI agents, Wed Nov 11 2026. No macro, syntax, notation, axiom, sorry.
-/
import Derived.Test.YtecndndpjekjbaaChecked
import GoSem.Claim
import GoSem.ClaimJoined
import GoSem.ClaimMapViews
import Derived.JoinedTies
import Derived.KernelRfl
namespace Go.Proofs.Ytecndndpjekjbaa
/- THE CELL 'sum', in the pinned program and in every row, IS THE sha256 OF THE DUMP (.gsa) THAT YtecndndpjekjbaaProg.lean LOADS. Nothing in Lean hashes anything: it is a label: what it is worth is what the hold of that sum in a sandbox is worth. -/
noncomputable def Try.pinned : Pinned := { name := "ytecndndpjekjbaa", sum := "bb0de1179a8f4aeae7ef5e895b65c50b472897f4f2b0af0926e9ec2f884a8521", checked := Try.checked }
namespace Rows
def none {H : Type} : Left H := { results := [], args := [] }

/-- 'laws.FnExactPublicLeaf': WHATEVER THE INPUT: true; the input reads as it did. -/
def fnExactPublicLeafSpec : ChangeSpec := { name := "fnExactPublicLeaf", fn := fun _ => fun
  | [d1, d2] => { results := [.lit (.bool true)], args := [d1, d2] }
  | _ => none }
def fnExactPublicLeafRow : OpenClaim := { program := "ytecndndpjekjbaa", sum := "bb0de1179a8f4aeae7ef5e895b65c50b472897f4f2b0af0926e9ec2f884a8521", func := "loop.example/g00143/laws.FnExactPublicLeaf", spec := "fnExactPublicLeaf", unfollowed := true, recurses := true, apart := false }
def FnExactPublicLeafSaid : Prop := fnExactPublicLeafRow.holds Try.pinned (OpenSpec.ofChange fnExactPublicLeafSpec)

/-- ITS FALSE NEIGHBOUR: 'it returns false'. Refute it at one input. -/
def fnExactPublicLeafWrong : ChangeSpec := { name := "fnExactPublicLeaf", fn := fun _ => fun
  | [d1, d2] => { results := [.lit (.bool false)], args := [d1, d2] }
  | _ => none }
def FnExactPublicLeafWrongFalsely : Prop := fnExactPublicLeafRow.holds Try.pinned (OpenSpec.ofChange fnExactPublicLeafWrong)

/-- 'laws.FnExactKeyRoot': WHATEVER THE INPUT: true; the input reads as it did. -/
def fnExactKeyRootSpec : ChangeSpec := { name := "fnExactKeyRoot", fn := fun _ => fun
  | [d] => { results := [.lit (.bool true)], args := [d] }
  | _ => none }
def fnExactKeyRootRow : OpenClaim := { program := "ytecndndpjekjbaa", sum := "bb0de1179a8f4aeae7ef5e895b65c50b472897f4f2b0af0926e9ec2f884a8521", func := "loop.example/g00143/laws.FnExactKeyRoot", spec := "fnExactKeyRoot", unfollowed := true, recurses := true, apart := false }
def FnExactKeyRootSaid : Prop := fnExactKeyRootRow.holds Try.pinned (OpenSpec.ofChange fnExactKeyRootSpec)

/-- ITS FALSE NEIGHBOUR: 'it returns false'. Refute it at one input. -/
def fnExactKeyRootWrong : ChangeSpec := { name := "fnExactKeyRoot", fn := fun _ => fun
  | [d] => { results := [.lit (.bool false)], args := [d] }
  | _ => none }
def FnExactKeyRootWrongFalsely : Prop := fnExactKeyRootRow.holds Try.pinned (OpenSpec.ofChange fnExactKeyRootWrong)

/-- 'laws.FnExactRootOf': WHATEVER THE INPUT: true; the input reads as it did. -/
def fnExactRootOfSpec : ChangeSpec := { name := "fnExactRootOf", fn := fun _ => fun
  | [d] => { results := [.lit (.bool true)], args := [d] }
  | _ => none }
def fnExactRootOfRow : OpenClaim := { program := "ytecndndpjekjbaa", sum := "bb0de1179a8f4aeae7ef5e895b65c50b472897f4f2b0af0926e9ec2f884a8521", func := "loop.example/g00143/laws.FnExactRootOf", spec := "fnExactRootOf", unfollowed := true, recurses := true, apart := false }
def FnExactRootOfSaid : Prop := fnExactRootOfRow.holds Try.pinned (OpenSpec.ofChange fnExactRootOfSpec)

/-- ITS FALSE NEIGHBOUR: 'it returns false'. Refute it at one input. -/
def fnExactRootOfWrong : ChangeSpec := { name := "fnExactRootOf", fn := fun _ => fun
  | [d] => { results := [.lit (.bool false)], args := [d] }
  | _ => none }
def FnExactRootOfWrongFalsely : Prop := fnExactRootOfRow.holds Try.pinned (OpenSpec.ofChange fnExactRootOfWrong)

/-- 'laws.FnExactProveLeaf': WHATEVER THE INPUT: true; the input reads as it did. -/
def fnExactProveLeafSpec : ChangeSpec := { name := "fnExactProveLeaf", fn := fun _ => fun
  | [d1, d2] => { results := [.lit (.bool true)], args := [d1, d2] }
  | _ => none }
def fnExactProveLeafRow : OpenClaim := { program := "ytecndndpjekjbaa", sum := "bb0de1179a8f4aeae7ef5e895b65c50b472897f4f2b0af0926e9ec2f884a8521", func := "loop.example/g00143/laws.FnExactProveLeaf", spec := "fnExactProveLeaf", unfollowed := true, recurses := true, apart := false }
def FnExactProveLeafSaid : Prop := fnExactProveLeafRow.holds Try.pinned (OpenSpec.ofChange fnExactProveLeafSpec)

/-- ITS FALSE NEIGHBOUR: 'it returns false'. Refute it at one input. -/
def fnExactProveLeafWrong : ChangeSpec := { name := "fnExactProveLeaf", fn := fun _ => fun
  | [d1, d2] => { results := [.lit (.bool false)], args := [d1, d2] }
  | _ => none }
def FnExactProveLeafWrongFalsely : Prop := fnExactProveLeafRow.holds Try.pinned (OpenSpec.ofChange fnExactProveLeafWrong)

/-- 'laws.FnExactCheckProof': WHATEVER THE INPUT: true; the input reads as it did. -/
def fnExactCheckProofSpec : ChangeSpec := { name := "fnExactCheckProof", fn := fun _ => fun
  | [d1, d2, d3] => { results := [.lit (.bool true)], args := [d1, d2, d3] }
  | _ => none }
def fnExactCheckProofRow : OpenClaim := { program := "ytecndndpjekjbaa", sum := "bb0de1179a8f4aeae7ef5e895b65c50b472897f4f2b0af0926e9ec2f884a8521", func := "loop.example/g00143/laws.FnExactCheckProof", spec := "fnExactCheckProof", unfollowed := true, recurses := true, apart := false }
def FnExactCheckProofSaid : Prop := fnExactCheckProofRow.holds Try.pinned (OpenSpec.ofChange fnExactCheckProofSpec)

/-- ITS FALSE NEIGHBOUR: 'it returns false'. Refute it at one input. -/
def fnExactCheckProofWrong : ChangeSpec := { name := "fnExactCheckProof", fn := fun _ => fun
  | [d1, d2, d3] => { results := [.lit (.bool false)], args := [d1, d2, d3] }
  | _ => none }
def FnExactCheckProofWrongFalsely : Prop := fnExactCheckProofRow.holds Try.pinned (OpenSpec.ofChange fnExactCheckProofWrong)

/-- 'laws.FnProofs': WHATEVER THE INPUT: true; the input reads as it did. -/
def fnProofsSpec : ChangeSpec := { name := "fnProofs", fn := fun _ => fun
  | [d] => { results := [.lit (.bool true)], args := [d] }
  | _ => none }
def fnProofsRow : OpenClaim := { program := "ytecndndpjekjbaa", sum := "bb0de1179a8f4aeae7ef5e895b65c50b472897f4f2b0af0926e9ec2f884a8521", func := "loop.example/g00143/laws.FnProofs", spec := "fnProofs", unfollowed := true, recurses := true, apart := false }
def FnProofsSaid : Prop := fnProofsRow.holds Try.pinned (OpenSpec.ofChange fnProofsSpec)

/-- ITS FALSE NEIGHBOUR: 'it returns false'. Refute it at one input. -/
def fnProofsWrong : ChangeSpec := { name := "fnProofs", fn := fun _ => fun
  | [d] => { results := [.lit (.bool false)], args := [d] }
  | _ => none }
def FnProofsWrongFalsely : Prop := fnProofsRow.holds Try.pinned (OpenSpec.ofChange fnProofsWrong)

/- THE SECOND FORM. 'bulk': how many values and letters a reading holds, each counted each time it is reached (what is shared counts as often as it is met; a slice's spare places count too). A statement '..UptoSaid' is the law's where the arguments, and the package variables that the reading takes, are together of bulk at most 1048576: NARROWER than '..Said'. Prove '..Said' where nothing that the law and all that it calls make is longer than what came in: it says more and counts as full. Else prove '..UptoSaid'. A law counts once. -/
mutual
def uptoBulk {H : Type} : DataW H → Nat
  | .lit (.string bytes) => bytes.length + 1
  | .lit _ => 1
  | .nil => 1
  | .ptr d => uptoBulk d + 1
  | .slice elems spare => uptoBulkAll elems + uptoBulkAll spare + 1
  | .agg parts => uptoBulkAll parts + 1
  | .iface _ d => uptoBulk d + 1
  | .map entries => uptoBulkEntries entries + 1
  | .held _ => 1
def uptoBulkAll {H : Type} : List (DataW H) → Nat
  | [] => 0
  | d :: r => uptoBulk d + uptoBulkAll r
def uptoBulkEntries {H : Type} : List (Lit × DataW H) → Nat
  | [] => 0
  | x :: r => uptoBulkEntry x + uptoBulkEntries r
def uptoBulkEntry {H : Type} : Lit × DataW H → Nat
  | (.string bytes, d) => bytes.length + uptoBulk d + 1
  | (_, d) => uptoBulk d + 1
 end
def uptoSmall : (H : Type) → List (DataW H) → Bool := fun _ ds => decide (uptoBulkAll ds ≤ 1048576)
def OpenSpec.upto (s : _root_.Go.ChangeSpec) : _root_.Go.OpenSpec := { _root_.Go.OpenSpec.ofChange s with cond := some uptoSmall }

/-- 'laws.FnExactPublicLeaf', WHERE WHAT IT READS IS OF BULK AT MOST 1048576: true; the input reads as it did. -/
def fnExactPublicLeafUptoRow : OpenClaim := { program := "ytecndndpjekjbaa", sum := "bb0de1179a8f4aeae7ef5e895b65c50b472897f4f2b0af0926e9ec2f884a8521", func := "loop.example/g00143/laws.FnExactPublicLeaf", spec := "fnExactPublicLeaf", unfollowed := true, recurses := true, apart := false, narrowed := true }
def FnExactPublicLeafUptoSaid : Prop := fnExactPublicLeafUptoRow.holds Try.pinned (OpenSpec.upto fnExactPublicLeafSpec)

/-- 'laws.FnExactKeyRoot', WHERE WHAT IT READS IS OF BULK AT MOST 1048576: true; the input reads as it did. -/
def fnExactKeyRootUptoRow : OpenClaim := { program := "ytecndndpjekjbaa", sum := "bb0de1179a8f4aeae7ef5e895b65c50b472897f4f2b0af0926e9ec2f884a8521", func := "loop.example/g00143/laws.FnExactKeyRoot", spec := "fnExactKeyRoot", unfollowed := true, recurses := true, apart := false, narrowed := true }
def FnExactKeyRootUptoSaid : Prop := fnExactKeyRootUptoRow.holds Try.pinned (OpenSpec.upto fnExactKeyRootSpec)

/-- 'laws.FnExactRootOf', WHERE WHAT IT READS IS OF BULK AT MOST 1048576: true; the input reads as it did. -/
def fnExactRootOfUptoRow : OpenClaim := { program := "ytecndndpjekjbaa", sum := "bb0de1179a8f4aeae7ef5e895b65c50b472897f4f2b0af0926e9ec2f884a8521", func := "loop.example/g00143/laws.FnExactRootOf", spec := "fnExactRootOf", unfollowed := true, recurses := true, apart := false, narrowed := true }
def FnExactRootOfUptoSaid : Prop := fnExactRootOfUptoRow.holds Try.pinned (OpenSpec.upto fnExactRootOfSpec)

/-- 'laws.FnExactProveLeaf', WHERE WHAT IT READS IS OF BULK AT MOST 1048576: true; the input reads as it did. -/
def fnExactProveLeafUptoRow : OpenClaim := { program := "ytecndndpjekjbaa", sum := "bb0de1179a8f4aeae7ef5e895b65c50b472897f4f2b0af0926e9ec2f884a8521", func := "loop.example/g00143/laws.FnExactProveLeaf", spec := "fnExactProveLeaf", unfollowed := true, recurses := true, apart := false, narrowed := true }
def FnExactProveLeafUptoSaid : Prop := fnExactProveLeafUptoRow.holds Try.pinned (OpenSpec.upto fnExactProveLeafSpec)

/-- 'laws.FnExactCheckProof', WHERE WHAT IT READS IS OF BULK AT MOST 1048576: true; the input reads as it did. -/
def fnExactCheckProofUptoRow : OpenClaim := { program := "ytecndndpjekjbaa", sum := "bb0de1179a8f4aeae7ef5e895b65c50b472897f4f2b0af0926e9ec2f884a8521", func := "loop.example/g00143/laws.FnExactCheckProof", spec := "fnExactCheckProof", unfollowed := true, recurses := true, apart := false, narrowed := true }
def FnExactCheckProofUptoSaid : Prop := fnExactCheckProofUptoRow.holds Try.pinned (OpenSpec.upto fnExactCheckProofSpec)

/-- 'laws.FnProofs', WHERE WHAT IT READS IS OF BULK AT MOST 1048576: true; the input reads as it did. -/
def fnProofsUptoRow : OpenClaim := { program := "ytecndndpjekjbaa", sum := "bb0de1179a8f4aeae7ef5e895b65c50b472897f4f2b0af0926e9ec2f884a8521", func := "loop.example/g00143/laws.FnProofs", spec := "fnProofs", unfollowed := true, recurses := true, apart := false, narrowed := true }
def FnProofsUptoSaid : Prop := fnProofsUptoRow.holds Try.pinned (OpenSpec.upto fnProofsSpec)

end Rows
end Go.Proofs.Ytecndndpjekjbaa
