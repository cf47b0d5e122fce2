/-
  No cell of these rows narrows 'for every input' (looked for: loops, veiled, ifaces, maps, wideKeys, modest, calm, conditions, laid).
  DERIVED. THE GIVEN ROWS OF THIS SEAT. 4 by the template 'for every input the law returns true; each argument reads behind the call as it read before'; 0 by the template 'total and deterministic' (their statements: YtchmaojmknfbpaaTotals.lean).
  GIVEN WITH THE SEED: the statements are not yours to turn. If you find one false, say at which input.
  Laid BY PROGRAM, IN A SANDBOX (cutbox-rows.mjs): the forced cells as the released guide's own fill.sh prints them over the translation 5585220b115caf67… (all of the seat's roots in one cut). By AI agents, Wed Nov 11 2026. No macro, syntax, notation, axiom, sorry.
-/
import Derived.Test.YtchmaojmknfbpaaChecked
import GoSem.Claim
import GoSem.ClaimJoined
import GoSem.ClaimMapViews
import Derived.JoinedTies
import Derived.KernelRfl
namespace Go.Proofs.Ytchmaojmknfbpaa
/- THE CELL 'sum', in the pinned program and in every row, IS THE sha256 OF THE DUMP (.gsa) THAT YtchmaojmknfbpaaProg.lean LOADS. Nothing in Lean hashes anything: it is a label: what it is worth is what the hold of that sum in a sandbox is worth. -/
noncomputable def Try.pinned : Pinned := { name := "ytchmaojmknfbpaa", sum := "5585220b115caf67b4c669812d8c25233ebe87da773f53eb2566a3901e139f6f", checked := Try.checked }
namespace Rows
def none {H : Type} : Left H := { results := [], args := [] }

/-- 'laws.FnExactSignMessage': WHATEVER THE INPUT: true; the input reads as it did. -/
def fnExactSignMessageSpec : ChangeSpec := { name := "fnExactSignMessage", fn := fun _ => fun
  | [d1, d2, d3] => { results := [.lit (.bool true)], args := [d1, d2, d3] }
  | _ => none }
def fnExactSignMessageRow : OpenClaim := { program := "ytchmaojmknfbpaa", sum := "5585220b115caf67b4c669812d8c25233ebe87da773f53eb2566a3901e139f6f", func := "loop.example/g00143/laws.FnExactSignMessage", spec := "fnExactSignMessage", unfollowed := true, recurses := true, apart := false }
def FnExactSignMessageSaid : Prop := fnExactSignMessageRow.holds Try.pinned (OpenSpec.ofChange fnExactSignMessageSpec)

/-- ITS FALSE NEIGHBOUR: 'it returns false'. Refute it at one input. -/
def fnExactSignMessageWrong : ChangeSpec := { name := "fnExactSignMessage", fn := fun _ => fun
  | [d1, d2, d3] => { results := [.lit (.bool false)], args := [d1, d2, d3] }
  | _ => none }
def FnExactSignMessageWrongFalsely : Prop := fnExactSignMessageRow.holds Try.pinned (OpenSpec.ofChange fnExactSignMessageWrong)

/-- 'laws.FnExactPackSign': WHATEVER THE INPUT: true; the input reads as it did. -/
def fnExactPackSignSpec : ChangeSpec := { name := "fnExactPackSign", fn := fun _ => fun
  | [d] => { results := [.lit (.bool true)], args := [d] }
  | _ => none }
def fnExactPackSignRow : OpenClaim := { program := "ytchmaojmknfbpaa", sum := "5585220b115caf67b4c669812d8c25233ebe87da773f53eb2566a3901e139f6f", func := "loop.example/g00143/laws.FnExactPackSign", spec := "fnExactPackSign", unfollowed := true, recurses := true, apart := false }
def FnExactPackSignSaid : Prop := fnExactPackSignRow.holds Try.pinned (OpenSpec.ofChange fnExactPackSignSpec)

/-- ITS FALSE NEIGHBOUR: 'it returns false'. Refute it at one input. -/
def fnExactPackSignWrong : ChangeSpec := { name := "fnExactPackSign", fn := fun _ => fun
  | [d] => { results := [.lit (.bool false)], args := [d] }
  | _ => none }
def FnExactPackSignWrongFalsely : Prop := fnExactPackSignRow.holds Try.pinned (OpenSpec.ofChange fnExactPackSignWrong)

/-- 'laws.FnExactUnpackSign': WHATEVER THE INPUT: true; the input reads as it did. -/
def fnExactUnpackSignSpec : ChangeSpec := { name := "fnExactUnpackSign", fn := fun _ => fun
  | [d] => { results := [.lit (.bool true)], args := [d] }
  | _ => none }
def fnExactUnpackSignRow : OpenClaim := { program := "ytchmaojmknfbpaa", sum := "5585220b115caf67b4c669812d8c25233ebe87da773f53eb2566a3901e139f6f", func := "loop.example/g00143/laws.FnExactUnpackSign", spec := "fnExactUnpackSign", unfollowed := true, recurses := true, apart := false }
def FnExactUnpackSignSaid : Prop := fnExactUnpackSignRow.holds Try.pinned (OpenSpec.ofChange fnExactUnpackSignSpec)

/-- ITS FALSE NEIGHBOUR: 'it returns false'. Refute it at one input. -/
def fnExactUnpackSignWrong : ChangeSpec := { name := "fnExactUnpackSign", fn := fun _ => fun
  | [d] => { results := [.lit (.bool false)], args := [d] }
  | _ => none }
def FnExactUnpackSignWrongFalsely : Prop := fnExactUnpackSignRow.holds Try.pinned (OpenSpec.ofChange fnExactUnpackSignWrong)

/-- 'laws.FnProofTexts': WHATEVER THE INPUT: true; the input reads as it did. -/
def fnProofTextsSpec : ChangeSpec := { name := "fnProofTexts", fn := fun _ => fun
  | [d] => { results := [.lit (.bool true)], args := [d] }
  | _ => none }
def fnProofTextsRow : OpenClaim := { program := "ytchmaojmknfbpaa", sum := "5585220b115caf67b4c669812d8c25233ebe87da773f53eb2566a3901e139f6f", func := "loop.example/g00143/laws.FnProofTexts", spec := "fnProofTexts", unfollowed := true, recurses := true, apart := false }
def FnProofTextsSaid : Prop := fnProofTextsRow.holds Try.pinned (OpenSpec.ofChange fnProofTextsSpec)

/-- ITS FALSE NEIGHBOUR: 'it returns false'. Refute it at one input. -/
def fnProofTextsWrong : ChangeSpec := { name := "fnProofTexts", fn := fun _ => fun
  | [d] => { results := [.lit (.bool false)], args := [d] }
  | _ => none }
def FnProofTextsWrongFalsely : Prop := fnProofTextsRow.holds Try.pinned (OpenSpec.ofChange fnProofTextsWrong)

/- THE SECOND FORM. 'bulk': how many values and letters a reading holds, each counted each time it is reached (what is shared counts as often as it is met; a slice's spare places count too). A statement '..UptoSaid' is the law's where the arguments, and the package variables that the reading takes, are together of bulk at most 1048576: NARROWER than '..Said'. Prove '..Said' where nothing that the law and all that it calls make is longer than what came in: it says more and counts as full. Else prove '..UptoSaid'. A law counts once. -/
mutual
def uptoBulk {H : Type} : DataW H → Nat
  | .lit (.string bytes) => bytes.length + 1
  | .lit _ => 1
  | .nil => 1
  | .ptr d => uptoBulk d + 1
  | .slice elems spare => uptoBulkAll elems + uptoBulkAll spare + 1
  | .agg parts => uptoBulkAll parts + 1
  | .iface _ d => uptoBulk d + 1
  | .map entries => uptoBulkEntries entries + 1
  | .held _ => 1
def uptoBulkAll {H : Type} : List (DataW H) → Nat
  | [] => 0
  | d :: r => uptoBulk d + uptoBulkAll r
def uptoBulkEntries {H : Type} : List (Lit × DataW H) → Nat
  | [] => 0
  | x :: r => uptoBulkEntry x + uptoBulkEntries r
def uptoBulkEntry {H : Type} : Lit × DataW H → Nat
  | (.string bytes, d) => bytes.length + uptoBulk d + 1
  | (_, d) => uptoBulk d + 1
 end
def uptoSmall : (H : Type) → List (DataW H) → Bool := fun _ ds => decide (uptoBulkAll ds ≤ 1048576)
def OpenSpec.upto (s : _root_.Go.ChangeSpec) : _root_.Go.OpenSpec := { _root_.Go.OpenSpec.ofChange s with cond := some uptoSmall }

/-- 'laws.FnExactSignMessage', WHERE WHAT IT READS IS OF BULK AT MOST 1048576: true; the input reads as it did. -/
def fnExactSignMessageUptoRow : OpenClaim := { program := "ytchmaojmknfbpaa", sum := "5585220b115caf67b4c669812d8c25233ebe87da773f53eb2566a3901e139f6f", func := "loop.example/g00143/laws.FnExactSignMessage", spec := "fnExactSignMessage", unfollowed := true, recurses := true, apart := false, narrowed := true }
def FnExactSignMessageUptoSaid : Prop := fnExactSignMessageUptoRow.holds Try.pinned (OpenSpec.upto fnExactSignMessageSpec)

/-- 'laws.FnExactPackSign', WHERE WHAT IT READS IS OF BULK AT MOST 1048576: true; the input reads as it did. -/
def fnExactPackSignUptoRow : OpenClaim := { program := "ytchmaojmknfbpaa", sum := "5585220b115caf67b4c669812d8c25233ebe87da773f53eb2566a3901e139f6f", func := "loop.example/g00143/laws.FnExactPackSign", spec := "fnExactPackSign", unfollowed := true, recurses := true, apart := false, narrowed := true }
def FnExactPackSignUptoSaid : Prop := fnExactPackSignUptoRow.holds Try.pinned (OpenSpec.upto fnExactPackSignSpec)

/-- 'laws.FnExactUnpackSign', WHERE WHAT IT READS IS OF BULK AT MOST 1048576: true; the input reads as it did. -/
def fnExactUnpackSignUptoRow : OpenClaim := { program := "ytchmaojmknfbpaa", sum := "5585220b115caf67b4c669812d8c25233ebe87da773f53eb2566a3901e139f6f", func := "loop.example/g00143/laws.FnExactUnpackSign", spec := "fnExactUnpackSign", unfollowed := true, recurses := true, apart := false, narrowed := true }
def FnExactUnpackSignUptoSaid : Prop := fnExactUnpackSignUptoRow.holds Try.pinned (OpenSpec.upto fnExactUnpackSignSpec)

/-- 'laws.FnProofTexts', WHERE WHAT IT READS IS OF BULK AT MOST 1048576: true; the input reads as it did. -/
def fnProofTextsUptoRow : OpenClaim := { program := "ytchmaojmknfbpaa", sum := "5585220b115caf67b4c669812d8c25233ebe87da773f53eb2566a3901e139f6f", func := "loop.example/g00143/laws.FnProofTexts", spec := "fnProofTexts", unfollowed := true, recurses := true, apart := false, narrowed := true }
def FnProofTextsUptoSaid : Prop := fnProofTextsUptoRow.holds Try.pinned (OpenSpec.upto fnProofTextsSpec)

end Rows
end Go.Proofs.Ytchmaojmknfbpaa
