/- Bytes as digits of base 16: what the program's HexOf comes to. For every slice of at most 2^20 bytes. -/
import Derived.Test.YtmmhghddldhogaaBase
import Derived.Test.YtmmhghddldhogaaSxImplHexOf
set_option linter.unusedVariables false
namespace Go.Proofs.Ytmmhghddldhogaa.S
open Go.RowKit Go.Proofs.YtmmhghddldhogaaW.PrintWords Go.Proofs.YtmmhghddldhogaaW.PrintLast Go.Proofs.YtmmhghddldhogaaW.PrintMore Go.Proofs.Ytmmhghddldhogaa.Base

def hexTab : ByteArray := ⟨#[48, 49, 50, 51, 52, 53, 54, 55, 56, 57, 97, 98, 99, 100, 101, 102]⟩
def hexL : List Int → List Int
  | [] => []
  | c :: l => bt hexTab (c / 16) :: bt hexTab (c % 16) :: hexL l
theorem hexL_length : ∀ l : List Int, (hexL l).length = 2 * l.length
  | [] => rfl
  | c :: l => by
    have := hexL_length l
    simp only [hexL, List.length_cons]
    omega
theorem hexL_byt : ∀ l : List Int, Byt (hexL l)
  | [] => byt_nil
  | c :: l => by
    intro x hx
    simp only [hexL, List.mem_cons] at hx
    rcases hx with rfl | rfl | hx
    · exact bt_range _ _
    · exact bt_range _ _
    · exact hexL_byt l x hx
theorem impl_hexOf_l0 (l : List Int) (hb : Byt l) (hl : l.length ≤ 1048576) : ∀ (d i : Nat) (y : List Int), i + d = l.length → y.length = 2 * i → Ev (fun k => impl_HexOf.l0 k y l (l.length : Int) (i : Int)) (strOfNums (y ++ hexL (l.drop i))) := by
  intro d
  induction d with
  | zero =>
    intro i y hi hy
    rw [List.drop_of_length_le (by omega)]
    exact ev_step (fun k => impl_HexOf.l0.eq_2 _ _ _ _ _) (ev_neg (by omega) (ev_now (by simp [hexL])))
  | succ d ih =>
    intro i y hi hy
    have hr := byt_rd hb (i : Int)
    rw [List.drop_eq_getElem_cons (by omega), ← rd_nat l i (by omega)]
    generalize hc : rd l (i : Int) = c at hr
    refine ev_step (fun k => impl_HexOf.l0.eq_2 _ _ _ _ _) ?_
    refine ev_pos (by omega) (ev_pos (by omega) (ev_pos (by omega) ?_))
    rw [hc, and15 hr.1 hr.2]
    refine ev_pos (by omega) (ev_pos (by omega) (ev_pos (by omega) (ev_pos (by omega) ?_)))
    refine ev_bind (ev_now rfl) ?_
    refine ev_pos (by simp only [List.length_cons, List.length_nil]; omega) ?_
    rw [w64s (by omega)]
    refine ev_eq (ih (i + 1) _ (by omega) (by simp; omega)) ?_
    rw [List.append_assoc]
    rfl
theorem impl_hexOf_ev (l : List Int) (hb : Byt l) (hl : l.length ≤ 1048576) : Ev (fun k => impl_HexOf.f k l) (strOfNums (hexL l)) :=
  ev_eq (impl_hexOf_l0 l hb hl l.length 0 [] (by omega) rfl) rfl
end Go.Proofs.Ytmmhghddldhogaa.S
