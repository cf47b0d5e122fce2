/-
  No cell of these rows narrows 'for every input' (looked for: loops, veiled, ifaces, maps, wideKeys, modest, calm, conditions, laid).
  DERIVED. THE GIVEN ROWS OF THIS SEAT. 4 by the template 'for every input the law returns true; each argument reads behind the call as it read before'; 0 by the template 'total and deterministic' (their statements: YtcgeajjkfoignaaTotals.lean).
  GIVEN WITH THE SEED: the statements are not yours to turn. If you find one false, say at which input.
  Laid BY PROGRAM, IN A SANDBOX (cutbox-rows.mjs): the forced cells as the released guide's own fill.sh prints them over the translation b0eae306ad601695… (all of the seat's roots in one cut). By AI agents, Wed Nov 11 2026. No macro, syntax, notation, axiom, sorry.
-/
import Derived.Test.YtcgeajjkfoignaaChecked
import GoSem.Claim
import GoSem.ClaimJoined
import GoSem.ClaimMapViews
import Derived.JoinedTies
import Derived.KernelRfl
namespace Go.Proofs.Ytcgeajjkfoignaa
/- THE CELL 'sum', in the pinned program and in every row, IS THE sha256 OF THE DUMP (.gsa) THAT YtcgeajjkfoignaaProg.lean LOADS. Nothing in Lean hashes anything: it is a label: what it is worth is what the hold of that sum in a sandbox is worth. -/
noncomputable def Try.pinned : Pinned := { name := "ytcgeajjkfoignaa", sum := "b0eae306ad601695ee0e985e68d7ee1e894c9d053f0be593ddf732e4473fa09e", checked := Try.checked }
namespace Rows
def none {H : Type} : Left H := { results := [], args := [] }

/-- 'laws.FnExactHeadDigest': WHATEVER THE INPUT: true; the input reads as it did. -/
def fnExactHeadDigestSpec : ChangeSpec := { name := "fnExactHeadDigest", fn := fun _ => fun
  | [d] => { results := [.lit (.bool true)], args := [d] }
  | _ => none }
def fnExactHeadDigestRow : OpenClaim := { program := "ytcgeajjkfoignaa", sum := "b0eae306ad601695ee0e985e68d7ee1e894c9d053f0be593ddf732e4473fa09e", func := "loop.example/g00143/laws.FnExactHeadDigest", spec := "fnExactHeadDigest", unfollowed := true, recurses := true, apart := false }
def FnExactHeadDigestSaid : Prop := fnExactHeadDigestRow.holds Try.pinned (OpenSpec.ofChange fnExactHeadDigestSpec)

/-- ITS FALSE NEIGHBOUR: 'it returns false'. Refute it at one input. -/
def fnExactHeadDigestWrong : ChangeSpec := { name := "fnExactHeadDigest", fn := fun _ => fun
  | [d] => { results := [.lit (.bool false)], args := [d] }
  | _ => none }
def FnExactHeadDigestWrongFalsely : Prop := fnExactHeadDigestRow.holds Try.pinned (OpenSpec.ofChange fnExactHeadDigestWrong)

/-- 'laws.FnExactHeadBDigest': WHATEVER THE INPUT: true; the input reads as it did. -/
def fnExactHeadBDigestSpec : ChangeSpec := { name := "fnExactHeadBDigest", fn := fun _ => fun
  | [d] => { results := [.lit (.bool true)], args := [d] }
  | _ => none }
def fnExactHeadBDigestRow : OpenClaim := { program := "ytcgeajjkfoignaa", sum := "b0eae306ad601695ee0e985e68d7ee1e894c9d053f0be593ddf732e4473fa09e", func := "loop.example/g00143/laws.FnExactHeadBDigest", spec := "fnExactHeadBDigest", unfollowed := true, recurses := true, apart := false }
def FnExactHeadBDigestSaid : Prop := fnExactHeadBDigestRow.holds Try.pinned (OpenSpec.ofChange fnExactHeadBDigestSpec)

/-- ITS FALSE NEIGHBOUR: 'it returns false'. Refute it at one input. -/
def fnExactHeadBDigestWrong : ChangeSpec := { name := "fnExactHeadBDigest", fn := fun _ => fun
  | [d] => { results := [.lit (.bool false)], args := [d] }
  | _ => none }
def FnExactHeadBDigestWrongFalsely : Prop := fnExactHeadBDigestRow.holds Try.pinned (OpenSpec.ofChange fnExactHeadBDigestWrong)

/-- 'laws.FnExactFirstBlock': WHATEVER THE INPUT: true; the input reads as it did. -/
def fnExactFirstBlockSpec : ChangeSpec := { name := "fnExactFirstBlock", fn := fun _ => fun
  | [d] => { results := [.lit (.bool true)], args := [d] }
  | _ => none }
def fnExactFirstBlockRow : OpenClaim := { program := "ytcgeajjkfoignaa", sum := "b0eae306ad601695ee0e985e68d7ee1e894c9d053f0be593ddf732e4473fa09e", func := "loop.example/g00143/laws.FnExactFirstBlock", spec := "fnExactFirstBlock", unfollowed := true, recurses := true, apart := false }
def FnExactFirstBlockSaid : Prop := fnExactFirstBlockRow.holds Try.pinned (OpenSpec.ofChange fnExactFirstBlockSpec)

/-- ITS FALSE NEIGHBOUR: 'it returns false'. Refute it at one input. -/
def fnExactFirstBlockWrong : ChangeSpec := { name := "fnExactFirstBlock", fn := fun _ => fun
  | [d] => { results := [.lit (.bool false)], args := [d] }
  | _ => none }
def FnExactFirstBlockWrongFalsely : Prop := fnExactFirstBlockRow.holds Try.pinned (OpenSpec.ofChange fnExactFirstBlockWrong)

/-- 'laws.FnExactSetDigest': WHATEVER THE INPUT: true; the input reads as it did. -/
def fnExactSetDigestSpec : ChangeSpec := { name := "fnExactSetDigest", fn := fun _ => fun
  | [d] => { results := [.lit (.bool true)], args := [d] }
  | _ => none }
def fnExactSetDigestRow : OpenClaim := { program := "ytcgeajjkfoignaa", sum := "b0eae306ad601695ee0e985e68d7ee1e894c9d053f0be593ddf732e4473fa09e", func := "loop.example/g00143/laws.FnExactSetDigest", spec := "fnExactSetDigest", unfollowed := true, recurses := true, apart := false }
def FnExactSetDigestSaid : Prop := fnExactSetDigestRow.holds Try.pinned (OpenSpec.ofChange fnExactSetDigestSpec)

/-- ITS FALSE NEIGHBOUR: 'it returns false'. Refute it at one input. -/
def fnExactSetDigestWrong : ChangeSpec := { name := "fnExactSetDigest", fn := fun _ => fun
  | [d] => { results := [.lit (.bool false)], args := [d] }
  | _ => none }
def FnExactSetDigestWrongFalsely : Prop := fnExactSetDigestRow.holds Try.pinned (OpenSpec.ofChange fnExactSetDigestWrong)

/- THE SECOND FORM. 'bulk': how many values and letters a reading holds, each counted each time it is reached (what is shared counts as often as it is met; a slice's spare places count too). A statement '..UptoSaid' is the law's where the arguments, and the package variables that the reading takes, are together of bulk at most 1048576: NARROWER than '..Said'. Prove '..Said' where nothing that the law and all that it calls make is longer than what came in: it says more and counts as full. Else prove '..UptoSaid'. A law counts once. -/
mutual
def uptoBulk {H : Type} : DataW H → Nat
  | .lit (.string bytes) => bytes.length + 1
  | .lit _ => 1
  | .nil => 1
  | .ptr d => uptoBulk d + 1
  | .slice elems spare => uptoBulkAll elems + uptoBulkAll spare + 1
  | .agg parts => uptoBulkAll parts + 1
  | .iface _ d => uptoBulk d + 1
  | .map entries => uptoBulkEntries entries + 1
  | .held _ => 1
def uptoBulkAll {H : Type} : List (DataW H) → Nat
  | [] => 0
  | d :: r => uptoBulk d + uptoBulkAll r
def uptoBulkEntries {H : Type} : List (Lit × DataW H) → Nat
  | [] => 0
  | x :: r => uptoBulkEntry x + uptoBulkEntries r
def uptoBulkEntry {H : Type} : Lit × DataW H → Nat
  | (.string bytes, d) => bytes.length + uptoBulk d + 1
  | (_, d) => uptoBulk d + 1
 end
def uptoSmall : (H : Type) → List (DataW H) → Bool := fun _ ds => decide (uptoBulkAll ds ≤ 1048576)
def OpenSpec.upto (s : _root_.Go.ChangeSpec) : _root_.Go.OpenSpec := { _root_.Go.OpenSpec.ofChange s with cond := some uptoSmall }

/-- 'laws.FnExactHeadDigest', WHERE WHAT IT READS IS OF BULK AT MOST 1048576: true; the input reads as it did. -/
def fnExactHeadDigestUptoRow : OpenClaim := { program := "ytcgeajjkfoignaa", sum := "b0eae306ad601695ee0e985e68d7ee1e894c9d053f0be593ddf732e4473fa09e", func := "loop.example/g00143/laws.FnExactHeadDigest", spec := "fnExactHeadDigest", unfollowed := true, recurses := true, apart := false, narrowed := true }
def FnExactHeadDigestUptoSaid : Prop := fnExactHeadDigestUptoRow.holds Try.pinned (OpenSpec.upto fnExactHeadDigestSpec)

/-- 'laws.FnExactHeadBDigest', WHERE WHAT IT READS IS OF BULK AT MOST 1048576: true; the input reads as it did. -/
def fnExactHeadBDigestUptoRow : OpenClaim := { program := "ytcgeajjkfoignaa", sum := "b0eae306ad601695ee0e985e68d7ee1e894c9d053f0be593ddf732e4473fa09e", func := "loop.example/g00143/laws.FnExactHeadBDigest", spec := "fnExactHeadBDigest", unfollowed := true, recurses := true, apart := false, narrowed := true }
def FnExactHeadBDigestUptoSaid : Prop := fnExactHeadBDigestUptoRow.holds Try.pinned (OpenSpec.upto fnExactHeadBDigestSpec)

/-- 'laws.FnExactFirstBlock', WHERE WHAT IT READS IS OF BULK AT MOST 1048576: true; the input reads as it did. -/
def fnExactFirstBlockUptoRow : OpenClaim := { program := "ytcgeajjkfoignaa", sum := "b0eae306ad601695ee0e985e68d7ee1e894c9d053f0be593ddf732e4473fa09e", func := "loop.example/g00143/laws.FnExactFirstBlock", spec := "fnExactFirstBlock", unfollowed := true, recurses := true, apart := false, narrowed := true }
def FnExactFirstBlockUptoSaid : Prop := fnExactFirstBlockUptoRow.holds Try.pinned (OpenSpec.upto fnExactFirstBlockSpec)

/-- 'laws.FnExactSetDigest', WHERE WHAT IT READS IS OF BULK AT MOST 1048576: true; the input reads as it did. -/
def fnExactSetDigestUptoRow : OpenClaim := { program := "ytcgeajjkfoignaa", sum := "b0eae306ad601695ee0e985e68d7ee1e894c9d053f0be593ddf732e4473fa09e", func := "loop.example/g00143/laws.FnExactSetDigest", spec := "fnExactSetDigest", unfollowed := true, recurses := true, apart := false, narrowed := true }
def FnExactSetDigestUptoSaid : Prop := fnExactSetDigestUptoRow.holds Try.pinned (OpenSpec.upto fnExactSetDigestSpec)

end Rows
end Go.Proofs.Ytcgeajjkfoignaa
