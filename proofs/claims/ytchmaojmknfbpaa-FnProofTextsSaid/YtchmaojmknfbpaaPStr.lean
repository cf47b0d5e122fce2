/- '[]byte(s)' in one step of a walk: the new row, which is read only. No condition. -/
import Derived.Test.YtchmaojmknfbpaaBase
set_option linter.unusedVariables false
namespace Go.Proofs.Ytchmaojmknfbpaa.Base
open Go Go.RowKit Go.Proofs.YtchmaojmknfbpaaW.PrintWords Go.Proofs.YtchmaojmknfbpaaW.PrintLast Go.Proofs.YtchmaojmknfbpaaW.PrintMore

theorem bytesOf_byt (s : ByteArray) : Byt (bytesOf s) := fun x hx => by
  unfold bytesOf at hx
  obtain ⟨b, _, rfl⟩ := List.mem_map.1 hx
  have := b.toNat_lt
  omega
theorem str_event {P : Program} {ops : Array Oper} {rest : List Oper} {o : Oper} {a : Act} {W : World} {Q : Exit → Act → World → Prop} (hgd : o.guard = none) {N : Tmp} (_hd : o.dst = some N) {s : ByteArray} {e : TypeId} (hs : (bytesOf s).length ≤ 9223372036854775807)
    (hrun : (execOp a.eval o).run P W = .ok (.value (.slice (some ⟨W.heap.size, 0, none⟩) s.size (grownCap W s.size 0 e))) (Lib.bytesWorld W e s))
    (h : ∀ (A : Option Addr) (c : Nat) (w1 : World), (Kd.int .u8).C w1 A (bytesOf s).length (bytesOf s) → (bytesOf s).length ≤ c → Below W.heap.size W w1 → wpList P ops Q rest (a.put o.dst (.slice A (bytesOf s).length c)) w1) : wpList P ops Q (o :: rest) a W := by
  refine Kd.event_run hgd hrun ?_
  rw [← bytesOf_length s]
  refine h _ _ _ ?_ ?_ (bytes_below (Below.refl _ _) (Nat.le_refl _) e s)
  · have h2 := bytes_reads W e s (by rw [← bytesOf_length]; exact hs)
    rw [bytesOf_length]
    exact Kd.C_of_reads (enc := Value.int .u8) (d := (0 : Int)) (h1 := fun _ => rfl) h2
  · rw [bytesOf_length]
    exact grownCap_ge _ _ _ _
end Go.Proofs.Ytchmaojmknfbpaa.Base
