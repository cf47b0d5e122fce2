/- Two lists of bytes are one where their texts are one. Nothing of the program stands in this text. -/
import Derived.Test.YtmmhghddldhogaaBase
import Derived.Lib.Bytes
set_option linter.unusedVariables false
namespace Go.Proofs.Ytmmhghddldhogaa.Base
open Go.RowKit Go.Proofs.YtmmhghddldhogaaW.PrintWords Go.Proofs.YtmmhghddldhogaaW.PrintLast Go.Proofs.YtmmhghddldhogaaW.PrintMore

theorem text_iff {a b : List Int} (ha : Byt a) (hb : Byt b) : (strOfNums a).toList = (strOfNums b).toList ↔ a = b := by
  rw [Lib.strOfNums_toList, Lib.strOfNums_toList]
  constructor
  · intro h
    refine strOfNums_inj ha hb ?_
    exact congrArg List.toArray h
  · intro h; rw [h]
theorem text_beq {a b : List Int} (ha : Byt a) (hb : Byt b) : ((strOfNums a).toList == (strOfNums b).toList) = decide (a = b) := by
  rw [Bool.eq_iff_iff, beq_iff_eq, decide_eq_true_iff]
  exact text_iff ha hb
end Go.Proofs.Ytmmhghddldhogaa.Base
