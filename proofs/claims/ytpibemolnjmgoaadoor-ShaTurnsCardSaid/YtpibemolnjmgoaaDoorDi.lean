/- The operations that make or write memory of one's own. It speaks of no program of ours. -/
import Derived.Test.YtpibemolnjmgoaaDoorDh
namespace Go.Proofs.YtpibemolnjmgoaaDoor
set_option linter.unusedSimpArgs false
set_option linter.unusedVariables false
open Go.RowKit

theorem zB_spec {zv : Value} {z : D} (h : zB zv z = true) : zv.cells.size = nc z ∧ ∀ i (hi : i < zv.cells.size), cell z i = .v zv.cells[i] ∧ isC zv.cells[i] = true := by
  unfold zB at h
  split at h
  · rename_i cs
    simp only [Bool.and_eq_true, beq_iff_eq, List.all_eq_true, List.mem_range] at h
    obtain ⟨⟨_, h2⟩, h3⟩ := h
    refine ⟨h2, fun i hi => ?_⟩
    have hi' : i < cs.size := hi
    have := h3 i hi'
    split at this
    · rename_i x y hx hy
      obtain ⟨rfl, hc⟩ := vEq_spec this
      have e : cs[i] = x := by
        have := getElem?_pos cs i hi'
        rw [hx] at this
        simpa using this.symm
      simp only [Value.cells]
      rw [e]
      exact ⟨hy, hc⟩
    · cases this
  · split at h
    · rename_i y
      obtain ⟨rfl, hc⟩ := vEq_spec h
      rw [isC_cells hc]
      refine ⟨rfl, fun i hi => ?_⟩
      have : i = 0 := by simpa using hi
      subst this
      exact ⟨rfl, hc⟩
    · cases h

/-! ### new blocks -/
theorem WR.push {C : Cx} {h : List (Option Bk)} {bs : List (Option Nat)} {w w' : World} (hw : WR C h bs w) {cs : Array Value} {T : TypeId} {fz : Nat × Nat} {k : Bk} (hh : w'.heap = w.heap.push (.cells cs T fz)) (hos : w'.os = w.os) (hta : w'.tape = w.tape) (hou : w'.output = w.output)
    (hk : Ext C w bs w' (bs ++ [some w.heap.size]) → BR C w' (bs ++ [some w.heap.size]) w.heap.size k) : WR C (h ++ [some k]) (bs ++ [some w.heap.size]) w' ∧ Ext C w bs w' (bs ++ [some w.heap.size]) := by
  have hold : ∀ b, b < w.heap.size → w'.heap[b]? = w.heap[b]? := fun b hb => by
    rw [hh, Array.getElem?_push, if_neg (by omega)]
  have hget : ∀ (i b : Nat), (bs ++ [some w.heap.size])[i]? = some (some b) → (bs[i]? = some (some b)) ∨ (i = bs.length ∧ b = w.heap.size) := fun i b hi => by
    rcases Nat.lt_or_ge i bs.length with hl | hl
    · rw [List.getElem?_append_left hl] at hi; exact .inl hi
    · rw [List.getElem?_append_right hl] at hi
      rcases Nat.eq_zero_or_pos (i - bs.length) with h0 | h0
      · rw [h0] at hi; simp at hi; exact .inr ⟨by omega, hi.symm⟩
      · rw [List.getElem?_eq_none (by simp; omega)] at hi; cases hi
  have hE : Ext C w bs w' (bs ++ [some w.heap.size]) := by
    refine ⟨fun b hb => ⟨⟨hb.1, by rw [hh]; simp; have := hb.2.1; omega, fun i hi => ?_⟩, hold b hb.2.1⟩, fun i b hb => ⟨?_, shape_of_heap (hold b (hw.ok i b hb).1)⟩⟩
    · rcases hget i b hi with h1 | ⟨_, rfl⟩
      · exact hb.2.2 i h1
      · exact Nat.lt_irrefl _ hb.2.1
    · rw [List.getElem?_append_left (List.getElem?_eq_some_iff.1 hb).1]; exact hb
  have hsz := hw.fr.size
  refine ⟨⟨by simp [hw.len], fun i j b hi hj => ?_, fun i b hi => ?_, fun i k' hk' => ?_, ?_, hw.gl, hw.g0, hw.tok, hw.mix, hw.s0, fun i b hi => ⟨(hE.ow i b (hw.fix i b hi).1).1, (hE.ow i b (hw.fix i b hi).1).2.trans (hw.fix i b hi).2⟩⟩, hE⟩
  · rcases hget i b hi with h1 | ⟨h1, h1'⟩ <;> rcases hget j b hj with h2 | ⟨h2, h2'⟩
    · exact hw.inj i j b h1 h2
    · have := (hw.ok i b h1).1; omega
    · have := (hw.ok j b h2).1; omega
    · omega
  · rcases hget i b hi with h1 | ⟨h1, rfl⟩
    · obtain ⟨a, c⟩ := hw.ok i b h1
      exact ⟨by rw [hh]; simp; omega, c⟩
    · exact ⟨by rw [hh]; simp, fun hs => by have := hw.s0 _ hs; omega⟩
  · rcases Nat.lt_or_ge i h.length with hl | hl
    · rw [List.getElem?_append_left hl] at hk'
      rcases hw.blk i k' hk' with ⟨b, hb, hB⟩ | ⟨T', sz', e1, e2⟩
      · exact .inl ⟨b, (hE.ow i b hb).1, hB.ext hE (hold b (hw.ok i b hb).1)⟩
      · exact .inr ⟨T', sz', e1, by rw [List.getElem?_append_left (by rw [hw.len]; exact hl)]; exact e2⟩
    · rw [List.getElem?_append_right hl] at hk'
      rcases Nat.eq_zero_or_pos (i - h.length) with h0 | h0
      · rw [h0] at hk'
        simp at hk'
        subst hk'
        refine .inl ⟨w.heap.size, ?_, hk hE⟩
        have : i = bs.length := by rw [hw.len]; omega
        rw [this]; simp
      · rw [List.getElem?_eq_none (by simp; omega)] at hk'; cases hk'
  · have hf := hw.fr
    exact ⟨hos.trans hf.os, hta.trans hf.tape, hou.trans hf.output, by rw [hh]; simp; omega, fun b hb => (hold b (by have := hw.s0 b hb; omega)).trans (hf.block b hb)⟩

theorem unfro_zero (n : Nat) : unfro (0, 0) n := .inl rfl

theorem Rel.alloc {C : Cx} {st : St} {bs : List (Option Nat)} {a : Act} {w w' : World} (hr : Rel C st bs a w) {o : Oper} (hd : dstB C o = true) {cs : Array Value} {T : TypeId} {fz : Nat × Nat} {d : D} (hh : w'.heap = w.heap.push (.cells cs T fz)) (hos : w'.os = w.os) (hta : w'.tape = w.tape) (hou : w'.output = w.output)
    (hn : cs.size = nc d) (hfz : unfro fz cs.size) (hc : ∀ i (hi : i < cs.size), R1 C w bs cs[i] (cell d i)) :
    ∃ bs', Rel C (St.put { st with h := st.h ++ [some (.one d)] } o.dst (.ptr st.h.length 0)) bs' (a.put o.dst (.pointer (some ⟨w.heap.size, 0, none⟩))) w' := by
  obtain ⟨h1, h2⟩ := hr.wr.push (k := .one d) hh hos hta hou (fun hE => ⟨cs, T, fz, by rw [hh]; simp, hn, hfz, fun i hi => (hc i hi).ext hE⟩)
  refine ⟨_, Rel.put (st := { st with h := st.h ++ [some (.one d)] }) ⟨hr.defers, hr.size, fun t => RV.ext h2 (hr.slots t), h1⟩ (dstB_spec hd) (R1.ptr ?_)⟩
  rw [← hr.wr.len]; simp

theorem DO_alloc {C : Cx} {o : Oper} {st : St} {T : Nat} {e : TE} (ho : o.op = .alloc T) (hd : dstB C o = true) (hT : C.T T = some e) : DO C o st (St.put { st with h := st.h ++ [some (.one e.z)] } o.dst (.ptr st.h.length 0)) := by
  intro bs a w hr
  obtain ⟨ti, de, zv, hF, hz, hzB⟩ := tok_of hr.wr.tok hT
  obtain ⟨z1, z2⟩ := zB_spec hzB
  have hrun : (execOp a.eval o).run C.P w = .ok (.value (.pointer (some ⟨w.heap.size, 0, none⟩))) (w.alloc (.cells zv.cells T)) := by
    simp [execOp, ho, Instr.alloc, zeroValue, typeInfo, hF.info, hz, Sem.run_bind, newVar, newRow]
  rw [hrun]
  exact hr.alloc hd (by rfl) rfl rfl rfl z1 (unfro_zero _) (fun i hi => by rw [(z2 i hi).1]; exact .im (.v (z2 i hi).2))

theorem cells_of_RV {C : Cx} {w : World} {bs : List (Option Nat)} {x : Value} {d : D} (h : RV C w bs x d) (hd : (aggB d || scB d) = true) : x.cells.size = nc d ∧ ∀ i (hi : i < x.cells.size), R1 C w bs x.cells[i] (cell d i) := by
  rcases Bool.or_eq_true _ _ ▸ hd with hd | hd
  · obtain ⟨cs, rfl, h1, h2⟩ := (RV_agg hd).1 h
    exact ⟨h1, h2⟩
  · have h' := (RV_sc hd).1 h
    have hc := isC_cells h'.isC
    obtain ⟨e1, e2⟩ := sc_cell hd 0
    refine ⟨by rw [hc, e1]; rfl, fun i hi => ?_⟩
    have hi' : i = 0 := by rw [hc] at hi; simpa using hi
    subst hi'
    rw [e2]
    have : x.cells[0] = x := by simp [hc]
    rw [this]
    exact h'

theorem DO_box {C : Cx} {o : Oper} {st : St} {T : Nat} {x : Operand} (ho : o.op = .box T x) (hd : dstB C o = true) (hx : (aggB (evD C st x) || scB (evD C st x)) = true) : DO C o st (St.put { st with h := st.h ++ [some (.one (evD C st x))] } o.dst (.ptr st.h.length 0)) := by
  intro bs a w hr
  obtain ⟨h1, h2⟩ := cells_of_RV (RV_evD hr x) hx
  have hrun : (execOp a.eval o).run C.P w = .ok (.value (.pointer (some ⟨w.heap.size, 0, none⟩))) (w.alloc (.cells (a.eval x).cells T)) := by
    simp [execOp, ho, Instr.box, Sem.run_bind, newVar, newRow]
  rw [hrun]
  exact hr.alloc hd (by rfl) rfl rfl rfl h1 (unfro_zero _) h2
end Go.Proofs.YtpibemolnjmgoaaDoor
