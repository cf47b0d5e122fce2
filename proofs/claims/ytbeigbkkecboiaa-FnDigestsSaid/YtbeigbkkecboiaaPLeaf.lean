/- A slice that is converted to its own type: its row is marked; what is appended to it. No condition beyond those in the statements. -/
import Derived.Test.YtbeigbkkecboiaaSx0
import Derived.Lib.SlBytesConst
import Derived.ArgAppend
import Derived.Deep.Upon
set_option linter.unusedVariables false
set_option linter.unusedSimpArgs false
namespace Go.Proofs.Ytbeigbkkecboiaa.S
open Go Go.RowKit Go.Proofs.YtbeigbkkecboiaaW.PrintWords Go.Proofs.YtbeigbkkecboiaaW.PrintLast Go.Proofs.YtbeigbkkecboiaaW.PrintMore

theorem const_event {P : Program} {ops : Array Oper} {rest : List Oper} {o o2 : Oper} {a : Act} {W : World} {Q : Exit → Act → World → Prop} (hgd : o.guard = none) {N M : Tmp} (hd : o.dst = some N) (hgd2 : o2.guard = none) (hd2 : o2.dst = some M) (t e : TypeId)
    (hop2 : o2.op = .convert t t (.tmp N)) (ht : P.underlying t = some (.slice e)) (he : P.underlying e = some (.int .u8)) {cs : Array Value} {n : Nat}
    (hrun : (execOp a.eval o).run P W = .ok (.value (.slice (some ⟨W.heap.size, 0, none⟩) n n)) (W.alloc (.cells cs e)))
    (hev : (a.put (some N) (.slice (some ⟨W.heap.size, 0, none⟩) n n)).eval (.tmp N) = .slice (some ⟨W.heap.size, 0, none⟩) n n)
    (h : ∀ g, g = W.heap.size → ∀ w1, w1.heap[g]? = some (.cells cs e (cs.size, cs.size + 1)) → Below W.heap.size W w1 → wpList P ops Q rest ((a.put o.dst (.slice (some ⟨g, 0, none⟩) n n)).put o2.dst (.slice (some ⟨g, 0, none⟩) n n)) w1) : wpList P ops Q (o :: o2 :: rest) a W := by
  refine Kd.event_run hgd hrun ?_
  have hr2 := Go.Lib.run_convert_bytes_const (P := P) W t e cs n n ht he
  rw [hd]
  refine Kd.event_run (v := .slice (some ⟨W.heap.size, 0, none⟩) n n) (w1 := W.alloc (.cells cs e (cs.size, cs.size + 1))) hgd2 ?_ ?_
  · unfold execOp
    simp only [hop2, hev, hr2, Sem.run_bind, Sem.run_pure, Result.andThen_ok]
  · have h1 := h _ rfl (W.alloc (.cells cs e (cs.size, cs.size + 1))) (blk_new W _) (below_alloc (Below.refl _ _) _)
    rw [hd] at h1
    exact h1
/-- Bytes appended to such a row: what comes reads as the two behind one another. -/
theorem const_append {P : Program} {ops : Array Oper} {rest : List Oper} {o : Oper} {a : Act} {W : World} {Q : Exit → Act → World → Prop} (hgd : o.guard = none) (s x : Operand) (t e : TypeId)
    (ho : o.op = .call { callee := .builtin .append, args := #[s, x], argTypes := #[t, t] }) (ht : P.underlying t = some (.slice e)) (hinfo : (P.info? e).map (fun i => (i.zero, i.size, i.bytes)) = some (some (.int .u8 0), 1, 1))
    (g : Nat) (xs ys : List Int) (fr : Nat × Nat) (n : Nat) (hn : xs.length = n) (hpos : 0 < n) (hg : W.heap[g]? = some (.cells (xs.map (fun z : Int => Value.int .u8 z)).toArray e fr)) (hs : a.eval s = .slice (some ⟨g, 0, none⟩) n n)
    (A : Option Addr) (m c : Nat) (hx : a.eval x = .slice A m c) (HR : (Kd.int .u8).C W A m ys) (hl : n + m ≤ 140737488355328)
    (h : ∀ A1 c1 w1, (Kd.int .u8).C w1 A1 (n + m) (xs ++ ys) → n + m ≤ c1 → Below W.heap.size W w1 → wpList P ops Q rest (a.put o.dst (.slice A1 (n + m) c1)) w1) :
    wpList P ops Q (o :: rest) a W := by
  subst hn
  obtain ⟨i0, hi, hzz⟩ := Option.map_eq_some_iff.1 hinfo
  simp only [Prod.mk.injEq] at hzz
  obtain ⟨hz0, hz1, hz2⟩ := hzz
  have hm : ys.length = m := HR.1
  have hcell : ∀ j, j < xs.length → W.cell? ⟨g, j, none⟩ = some (.int .u8 (xs.getD j 0)) := fun j hj => by
    have h1 := cell_of_row W g j _ e fr hg
    rw [h1, List.getElem?_toArray, List.getElem?_map, List.getElem?_eq_getElem hj, List.getD_eq_getElem?_getD, List.getElem?_eq_getElem hj]
    rfl
  have hC0 : ReadsOf (Value.int .u8) (0 : Int) W (some ⟨g, 0, none⟩) xs.length xs := ⟨rfl, by omega, fun _ => ⟨_, rfl, fun j hj => by
    have e2 : (⟨g, 0, none⟩ : Addr).add j = ⟨g, j, none⟩ := by unfold Addr.add; split <;> simp_all
    rw [e2]
    exact hcell j hj⟩⟩
  have hrun : ∃ A1 c1 w1, (Builtin.append_ #[t, t] o.type #[.slice (some ⟨g, 0, none⟩) xs.length xs.length, .slice A m c]).run P W = .ok (.slice A1 (xs.length + m) c1) w1 ∧ (Kd.int .u8).C w1 A1 (xs.length + m) (xs ++ ys) ∧ xs.length + m ≤ c1 ∧ Below W.heap.size W w1 := by
    rcases Nat.eq_zero_or_pos m with h0 | h0
    · subst h0
      obtain rfl : ys = [] := List.eq_nil_of_length_eq_zero hm
      refine ⟨some ⟨g, 0, none⟩, xs.length, W, ?_, ?_, Nat.le_refl _, Below.refl _ _⟩
      · rcases A with _ | ad
        · simp [Builtin.append_, run_underlying ht, sizeOf, typeInfo, hi, Builtin.lenOf, Builtin.firstCells, storeCells]
        · simp [Builtin.append_, run_underlying ht, sizeOf, typeInfo, hi, Builtin.lenOf, Builtin.firstCells, storeCells, loadCells, loadCellsFrom]
      · rw [List.append_nil]
        exact Kd.C_of_reads (d := (0 : Int)) (h1 := fun _ => rfl) hC0
    · have HR2 := Kd.reads_of_C (d := (0 : Int)) (enc := Value.int .u8) (h1 := fun _ => rfl) HR
      obtain ⟨ad, rfl, hc⟩ := HR2.2.2 h0
      obtain ⟨v', w', hr, r1, r2⟩ := run_append_arg_grows (P := P) W t o.type e i0 (.int .u8 0) 1 1 ht hi hz0 hz1 hz2 rfl (by decide) ⟨g, 0, none⟩ xs.length xs.length (encs (Value.int .u8) xs) (by rw [encs_length, Nat.mul_one]) (fun j u hj => by
        obtain ⟨ad2, e2, hc2⟩ := hC0.2.2 hpos
        injection e2 with e2
        subst e2
        have hjl : j < xs.length := by
          rcases Nat.lt_or_ge j xs.length with h | h
          · exact h
          · simp [encs, List.getElem?_eq_none h] at hj
        rw [encs_get (d := (0 : Int)) xs j hjl] at hj
        rw [hc2 j hjl]
        exact hj) ad m c (encs (Value.int .u8) ys) (by rw [encs_length, Nat.mul_one, hm]) (fun j u hj => by
        have hjl : j < ys.length := by
          rcases Nat.lt_or_ge j ys.length with h | h
          · exact h
          · simp [encs, List.getElem?_eq_none h] at hj
        rw [encs_get (d := (0 : Int)) ys j hjl] at hj
        rw [hc j (by omega)]
        exact hj) (by omega) (by unfold maxLen; omega) (by omega)
      rw [← encs_append] at r1
      obtain ⟨A1, c1, rfl, hle, hrd⟩ := own_reads_of_le (d := (0 : Int)) r1
      exact ⟨A1, c1, w', hr, Kd.C_of_reads (d := (0 : Int)) (h1 := fun _ => rfl) hrd, hle, ⟨r2.os, r2.tape, r2.output, r2.size, fun k hk => r2.block k hk (by simp)⟩⟩
  obtain ⟨A1, c1, w1, hr, hC, hle, hb⟩ := hrun
  refine wpList_plain hgd fun K hK' => ?_
  unfold Oper.wp
  simp [execOp, ho, resolve, invoke, builtin, hs, hx, hr, Result.andThen]
  exact hK' _ _ (h A1 c1 w1 hC hle hb)
end Go.Proofs.Ytbeigbkkecboiaa.S
