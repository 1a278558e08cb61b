/- Literals: slices, structs and arrays that are built. It speaks of no program of ours. -/
import Derived.Test.YtpibemolnjmgoaaDoorDp
namespace Go.Proofs.YtpibemolnjmgoaaDoor
set_option linter.unusedSimpArgs false
set_option linter.unusedVariables false
open Go.RowKit

/-- a segment written cell by cell -/
theorem fold_set : ∀ (vs : List Value) (off k : Nat) (cells : Array Value) (i : Nat), off + k + vs.length ≤ cells.size →
    ((vs.zipIdx k).foldl (fun cs (p : Value × Nat) => cs.setIfInBounds (off + p.2) p.1) cells).size = cells.size ∧
    ((vs.zipIdx k).foldl (fun cs (p : Value × Nat) => cs.setIfInBounds (off + p.2) p.1) cells)[i]? = if off + k ≤ i ∧ i < off + k + vs.length then vs[i - (off + k)]? else cells[i]?
  | [], off, k, cells, i, _ => by
    refine ⟨rfl, ?_⟩
    rw [if_neg (by simp only [List.length_nil]; omega)]
    rfl
  | v :: vs, off, k, cells, i, h => by
    simp only [List.length_cons] at h
    have h0 : off + (k + 1) + vs.length ≤ (cells.setIfInBounds (off + k) v).size := by simp; omega
    obtain ⟨h1, h2⟩ := fold_set vs off (k + 1) (cells.setIfInBounds (off + k) v) i h0
    simp only [List.zipIdx_cons, List.foldl_cons]
    refine ⟨by rw [h1]; simp, ?_⟩
    rw [h2]
    simp only [List.length_cons]
    by_cases e1 : off + (k + 1) ≤ i ∧ i < off + (k + 1) + vs.length
    · rw [if_pos e1, if_pos (by omega)]
      obtain ⟨m, hm⟩ : ∃ m, i - (off + k) = m + 1 := ⟨i - (off + k) - 1, by omega⟩
      rw [hm, List.getElem?_cons_succ]
      congr 1
      omega
    · rw [if_neg e1]
      by_cases e2 : i = off + k
      · subst e2
        rw [if_pos (by omega), Nat.sub_self, List.getElem?_cons_zero, Array.getElem?_setIfInBounds_self_of_lt (by omega)]
      · rw [if_neg (by omega), Array.getElem?_setIfInBounds_ne (by omega)]

/-- parts laid one behind the other -/
theorem fill_at {place : Nat → Option (Nat × Nat)} : ∀ (ps : List (Nat × Value)) (cells : Array Value), (∀ p ∈ ps, ∃ off, place p.1 = some (off, p.2.cells.size) ∧ off + p.2.cells.size ≤ cells.size) →
    ∃ out, Instr.fill place cells ps = some out ∧ out.size = cells.size ∧ ∀ i, i < cells.size →
      (∃ p ∈ ps, ∃ off, place p.1 = some (off, p.2.cells.size) ∧ off ≤ i ∧ i < off + p.2.cells.size ∧ out[i]? = p.2.cells[i - off]?) ∨
      (out[i]? = cells[i]? ∧ ∀ p ∈ ps, ∀ off, place p.1 = some (off, p.2.cells.size) → ¬ (off ≤ i ∧ i < off + p.2.cells.size))
  | [], cells, _ => ⟨cells, rfl, rfl, fun i _ => .inr ⟨rfl, by simp⟩⟩
  | (k, v) :: ps, cells, h => by
    obtain ⟨off, h1, h2⟩ := h (k, v) (by simp)
    have hs := fun i => fold_set v.cells.toList off 0 cells i (by simpa using h2)
    have hsz := (hs 0).1
    obtain ⟨out, e1, e2, e3⟩ := fill_at ps ((v.cells.toList.zipIdx 0).foldl (fun cs (p : Value × Nat) => cs.setIfInBounds (off + p.2) p.1) cells) (fun p hp => by
      obtain ⟨o, a, b⟩ := h p (by simp [hp])
      exact ⟨o, a, by rw [hsz]; exact b⟩)
    refine ⟨out, ?_, by rw [e2, hsz], fun i hi => ?_⟩
    · simp only [Instr.fill, h1]
      rw [if_neg (by simp at h2 ⊢; omega)]
      have : (v.cells.zipIdx.foldl (fun cs (x : Value × Nat) => cs.setIfInBounds (off + x.2) x.1) cells) = ((v.cells.toList.zipIdx 0).foldl (fun cs (p : Value × Nat) => cs.setIfInBounds (off + p.2) p.1) cells) := by
        rw [← Array.foldl_toList, Array.toList_zipIdx]
      rw [← e1]
      congr 1
    · rcases e3 i (by rw [hsz]; exact hi) with ⟨p, hp, o, a, b, c, d⟩ | ⟨a, b⟩
      · exact .inl ⟨p, by simp [hp], o, a, b, c, d⟩
      · have h4 := (hs i).2
        simp only [Nat.add_zero, Array.length_toList] at h4
        by_cases hin : off ≤ i ∧ i < off + v.cells.size
        · rw [if_pos hin] at h4
          exact .inl ⟨(k, v), by simp, off, h1, hin.1, hin.2, by rw [a, h4]; simp⟩
        · rw [if_neg hin] at h4
          refine .inr ⟨by rw [a, h4], fun p hp o ho => ?_⟩
          rcases List.mem_cons.1 hp with rfl | hp
          · rw [h1] at ho; simp at ho; subst ho; exact hin
          · exact b p hp o ho

/-- a slice literal, all of whose elements are written down, in order -/
theorem DQ_buildSlice {C : Cx} {o : Oper} {h : List (Option Bk)} {t el : Nat} {e : TE} {parts : Array (Nat × Operand)} {b1 b2 : Nat} {z1 : D} {xs : List D} {len : Nat} (ho : o.op = .buildSlice t len parts) (hT : C.T t = some ⟨.slice el, b1, b2, z1⟩) (hE : C.T el = some e) (hi : parts.toList.map (·.1) = List.range len)
    (hx : xs.all (fun d => pureD d && (aggB d || scB d) && nc d == e.sz) = true) (hl : len * e.sz ≤ 16777216) (hpos : 0 < e.sz) : DQ C o xs h (.sl (List.range len) 0 (fun i => xs.getD i .dead)) := by
  intro bs w ρ hw ha
  rw [ho] at ha
  obtain ⟨ti, dt, _, hF, _⟩ := tok_of hw.tok hT
  obtain ⟨ti2, de, zv, hF2, hz, hzB⟩ := tok_of hw.tok hE
  have hd := hF.desc
  cases dt <;> simp only [descB] at hd <;> try cases hd
  simp only [beq_iff_eq] at hd
  subst hd
  have ha' : All2 (fun x d => RV C w bs (ρ x) d) (parts.toList.map (·.2)) xs := by simpa [Op.operands] using ha
  obtain ⟨n1, n2⟩ := ha'.get
  have hlen : parts.toList.length = len := by have := congrArg List.length hi; simpa using this
  have hxl : xs.length = len := by rw [← n1]; simpa using hlen
  have hxi : ∀ i (hi' : i < xs.length), pureD xs[i] = true ∧ (aggB xs[i] || scB xs[i]) = true ∧ nc xs[i] = e.sz := fun i hi' => by
    have := List.all_eq_true.1 hx _ (List.getElem_mem hi')
    simp only [Bool.and_eq_true, beq_iff_eq] at this
    exact ⟨this.1.1, this.1.2, this.2⟩
  have hpart : ∀ i (hi' : i < parts.toList.length), parts.toList[i].1 = i := fun i hi' => by
    have h1 : (parts.toList.map (·.1))[i]? = (List.range len)[i]? := by rw [hi]
    rw [List.getElem?_map, List.getElem?_eq_getElem hi', List.getElem?_range (by omega)] at h1
    simpa using h1
  have hval : ∀ i (hi' : i < parts.toList.length), RV C w bs (ρ parts.toList[i].2) (xs[i]'(by omega)) := fun i hi' => by
    have h1 := n2 i (by simpa using hi') (by omega)
    rw [List.getElem_map] at h1
    exact h1
  have hzs : zv.cells.size = e.sz := by rw [(zB_spec hzB).1, tok_nc hw.tok hE]
  have hcells : ∀ p ∈ parts.toList.map (fun p => (p.1, ρ p.2)), ∃ off, (fun i => some (i * e.sz, e.sz)) p.1 = some (off, p.2.cells.size) ∧ off + p.2.cells.size ≤ ((Array.range (len * e.sz)).map (fun x => zv.cells[x % zv.cells.size]!)).size := fun p hp => by
    obtain ⟨q, hq, rfl⟩ := List.mem_map.1 hp
    obtain ⟨i, hi', rfl⟩ := List.getElem_of_mem hq
    have hc := (cells_of_RV (hval i hi') (hxi i (by omega)).2.1).1
    rw [(hxi i (by omega)).2.2] at hc
    refine ⟨parts.toList[i].1 * e.sz, by rw [hc], ?_⟩
    rw [hc, hpart i hi']
    have : (i + 1) * e.sz ≤ len * e.sz := Nat.mul_le_mul_right _ (by omega)
    rw [Nat.add_mul] at this
    simp
    omega
  obtain ⟨out, e1, e2, e3⟩ := fill_at (place := fun i => some (i * e.sz, e.sz)) _ _ hcells
  have hsz : out.size = len * e.sz := by rw [e2]; simp
  have hrun : (execOp ρ o).run C.P w = .ok (.value (.slice (some ⟨w.heap.size, 0, none⟩) len len)) (w.alloc (.cells out el)) := by
    have e1' : Instr.fill (fun i => some (i * e.sz, e.sz)) ((Array.range (len * e.sz)).map (fun x => zv.cells[x % zv.cells.size]!)) (parts.map (fun p => (p.1, ρ p.2))).toList = some out := by
      rw [Array.toList_map]; exact e1
    have h24 : ¬ (2 ^ 24 < len * e.sz) := by omega
    by_cases hz0 : len * e.sz = 0
    · rw [hz0] at e1'
      rw [show Array.range 0 = #[] from rfl, Array.map_empty] at e1'
      simp [execOp, ho, Instr.buildSlice, Sem.run_bind, hF.underlying w, hF2.sizeOf w, hz0, newRow] at e1' ⊢
      rw [show Array.range 0 = #[] from rfl, Array.map_empty, e1']
      simp
    · simp [execOp, ho, Instr.buildSlice, Sem.run_bind, hF.underlying w, hF2.sizeOf w, zeroValue, typeInfo, hF2.info, hz, hz0, newRow] at e1' ⊢
      rw [if_neg (by omega)]
      simp [e1']
  rw [hrun]
  have hbelow : Below w.heap.size w (w.alloc (.cells out el)) := (Below.refl _ _).alloc (Nat.le_refl _) _
  obtain ⟨w1, w2⟩ := hw.below hbelow
  refine ⟨w1, w2, R1.im ?_⟩
  have hnew : (w.alloc (.cells out el)).heap[w.heap.size]? = some (.cells out el) := heap_alloc_new w _
  by_cases hl0 : len = 0
  · subst hl0; exact .sl0
  have hSf : Sf C (w.alloc (.cells out el)) bs w.heap.size := ⟨.inr hw.fr.size, by simp, fun i hi => by have := (hw.ok i _ hi).1; omega⟩
  have hcell : ∀ i j, i < len → j < e.sz → ∃ x, out[i * e.sz + j]? = some x ∧ RI (w.alloc (.cells out el)) (Sf C (w.alloc (.cells out el)) bs) x (cell (xs.getD i .dead) j) := fun i j hi' hj => by
    have hip : i < parts.toList.length := by omega
    have hidx : i * e.sz + j < len * e.sz := by
      have : (i + 1) * e.sz ≤ len * e.sz := Nat.mul_le_mul_right _ (by omega)
      rw [Nat.add_mul] at this
      omega
    obtain ⟨c1, c2⟩ := cells_of_RV (hval i hip) (hxi i (by omega)).2.1
    rw [(hxi i (by omega)).2.2] at c1
    rcases e3 (i * e.sz + j) (by simpa using hidx) with ⟨p, hp, off, a1, a2, a3, a4⟩ | ⟨a1, a2⟩
    · obtain ⟨q, hq, rfl⟩ := List.mem_map.1 hp
      obtain ⟨i', hi2, rfl⟩ := List.getElem_of_mem hq
      simp only [hpart i' hi2, Option.some.injEq, Prod.mk.injEq] at a1 a3 a4
      obtain ⟨rfl, a5⟩ := a1
      rw [← a5] at a3
      have hii : i' = i := by
        rcases Nat.lt_trichotomy i' i with h | h | h
        · have : (i' + 1) * e.sz ≤ i * e.sz := Nat.mul_le_mul_right _ h
          rw [Nat.add_mul] at this
          omega
        · exact h
        · have : (i + 1) * e.sz ≤ i' * e.sz := Nat.mul_le_mul_right _ h
          rw [Nat.add_mul] at this
          omega
      subst hii
      rw [show i' * e.sz + j - i' * e.sz = j by omega] at a4
      have hjc : j < (ρ parts.toList[i'].2).cells.size := by rw [c1]; exact hj
      refine ⟨(ρ parts.toList[i'].2).cells[j], by rw [a4]; simp [hjc], ?_⟩
      have h1 := (c2 j hjc).pure (pure_cell (hxi i' (by omega)).1 j)
      have h2 := h1.mono (S' := Sf C (w.alloc (.cells out el)) bs) (w' := w.alloc (.cells out el)) w2.im
      simpa [List.getD_eq_getElem?_getD, show i' < xs.length by omega] using h2
    · exfalso
      refine a2 (parts.toList[i].1, ρ parts.toList[i].2) (List.mem_map.2 ⟨parts.toList[i], List.getElem_mem hip, rfl⟩) (i * e.sz) (by rw [hpart i hip, c1]) ?_
      rw [c1]; omega
  have hres : RI (w.alloc (.cells out el)) (Sf C (w.alloc (.cells out el)) bs) (.slice (some ⟨w.heap.size, 0, none⟩) (List.range len).length len) (.sl (List.range len) 0 (fun i => xs.getD i .dead)) := by
    refine .sl e.sz (fun i j => (out[i * e.sz + j]?).getD undef) hSf (by simp) (fun i hi' => ?_) (fun i j hi' hj => ?_) (fun i j hi' hj => ?_)
    · have hi2 : i < len := by simpa using hi'
      simp only [List.getD_eq_getElem?_getD, List.getElem?_range hi2, Option.getD_some]
      rw [List.getElem?_eq_getElem (show i < xs.length by omega)]
      exact (hxi i (by omega)).2.2
    · obtain ⟨x, hx1, _⟩ := hcell i j (by simpa using hi') hj
      show (match (w.alloc (.cells out el)).heap[w.heap.size]? with | some (.cells c _ _) => if (none : Option Nat).isSome then none else c[0 + (i * e.sz + j)]? | _ => none) = _
      rw [hnew]
      simp [hx1]
    · have hi2 : i < len := by simpa using hi'
      obtain ⟨x, hx1, hx2⟩ := hcell i j hi2 hj
      have e5 : (List.range len).getD i 0 = i := by simp [List.getD_eq_getElem?_getD, List.getElem?_range hi2]
      rw [e5, hx1]
      exact hx2
  simpa using hres

def bslF (T : Nat → Option TE) (t len : Nat) (idx : List Nat) (xs : List D) : Option (Prop × D) :=
  match T t with
  | some ⟨.slice el, _, _, _⟩ => match T el with
    | some e => if (idx == List.range len && xs.all (fun d => pureD d && (aggB d || scB d) && nc d == e.sz) && decide (len * e.sz ≤ 16777216) && decide (0 < e.sz)) = true then some (True, .sl (List.range len) 0 (fun i => xs.getD i .dead)) else none
    | none => none
  | _ => none
theorem DQ_bsl {C : Cx} {o : Oper} {h : List (Option Bk)} {t len : Nat} {parts : Array (Nat × Operand)} {xs : List D} {p : Prop} {d : D} (ho : o.op = .buildSlice t len parts) (hf : bslF C.T t len (parts.toList.map (·.1)) xs = some (p, d)) : DQ C o xs h d := by
  unfold bslF at hf
  split at hf
  · rename_i hT
    split at hf
    · rename_i e hE
      split at hf
      · rename_i hc
        simp only [Bool.and_eq_true, beq_iff_eq, decide_eq_true_eq] at hc
        obtain ⟨⟨⟨h1, h2⟩, h3⟩, h4⟩ := hc
        simp only [Option.some.injEq, Prod.mk.injEq] at hf
        obtain ⟨_, rfl⟩ := hf
        exact DQ_buildSlice ho hT hE h1 h2 h3 h4
      · cases hf
    · cases hf
  · cases hf
end Go.Proofs.YtpibemolnjmgoaaDoor
