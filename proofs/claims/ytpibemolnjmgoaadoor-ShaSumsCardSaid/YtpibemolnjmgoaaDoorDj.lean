/- The operations that make or write memory of one's own, part 2: stores, rows, appends. It speaks of no program of ours. -/
import Derived.Test.YtpibemolnjmgoaaDoorDi
namespace Go.Proofs.YtpibemolnjmgoaaDoor
set_option linter.unusedSimpArgs false
set_option linter.unusedVariables false
open Go.RowKit

/-! ### storing into what a block stands for -/
def updI (f : Nat → Int) (o : Nat) (x : Int) : Nat → Int := fun i => if i = o then x else f i
def setD (r : D) : Bool → D → Nat → Option (Prop × D)
  | top, .cons h t, o => if (top && aggB r && o == 0 && (nc h + nc t) == nc r) = true then some (True, r)
    else if o < nc h then (match setD r true h o with | some (p, h') => some (p, .cons h' t) | none => none)
    else (match setD r false t (o - nc h) with | some (p, t') => some (p, .cons h t') | none => none)
  | _, .arr k n f, o => match r with
    | .v (.int k' x) => if k = k' then some (o < n, .arr k n (updI f o x)) else none
    | .arr k' n' g => if k = k' ∧ n = n' ∧ o = 0 then some (True, .arr k n g) else none
    | _ => none
  | _, .nil, _ => none
  | _, .tup _, _ => none
  | _, _, o => if (o == 0 && scB r) = true then some (True, r) else none
theorem setD_leaf {r d d' : D} {o : Nat} {p : Prop} (h1 : nc d = 1) (he : (if (o == 0 && scB r) = true then some (True, r) else none) = some (p, d')) (hp : p) :
    nc d' = nc d ∧ o + nc r ≤ nc d ∧ ∀ i, i < nc d → cell d' i = if o ≤ i ∧ i < o + nc r then cell r (i - o) else cell d i := by
  split at he
  · rename_i hc
    simp only [Bool.and_eq_true, beq_iff_eq] at hc
    obtain ⟨rfl, hr⟩ := hc
    simp only [Option.some.injEq, Prod.mk.injEq] at he
    obtain ⟨rfl, rfl⟩ := he
    obtain ⟨e1, e2⟩ := sc_cell hr 0
    refine ⟨by rw [e1, h1], by omega, fun i hi => ?_⟩
    rw [if_pos (by omega)]
    simp
  · cases he
theorem setD_spec {r : D} : ∀ {d : D} {top : Bool} {o : Nat} {p : Prop} {d' : D}, setD r top d o = some (p, d') → p →
    nc d' = nc d ∧ o + nc r ≤ nc d ∧ ∀ i, i < nc d → cell d' i = if o ≤ i ∧ i < o + nc r then cell r (i - o) else cell d i
  | .cons h t, top, o, p, d', he, hp => by
    simp only [setD] at he
    split at he
    · rename_i hc
      simp only [Bool.and_eq_true, beq_iff_eq] at hc
      obtain ⟨⟨⟨_, hag⟩, rfl⟩, hn⟩ := hc
      simp only [Option.some.injEq, Prod.mk.injEq] at he
      obtain ⟨rfl, rfl⟩ := he
      refine ⟨by simp only [nc]; omega, by simp only [nc]; omega, fun i hi => ?_⟩
      simp only [nc] at hi
      rw [if_pos (by omega)]
      simp
    · split at he
      · rename_i hlt
        split at he
        · rename_i q h' hq
          simp only [Option.some.injEq, Prod.mk.injEq] at he
          obtain ⟨rfl, rfl⟩ := he
          obtain ⟨e1, e2, e3⟩ := setD_spec hq hp
          refine ⟨by simp only [nc]; omega, by simp only [nc]; omega, fun i hi => ?_⟩
          simp only [cell, e1]
          by_cases hi' : i < nc h
          · rw [if_pos hi', if_pos hi', e3 i hi']
          · rw [if_neg hi', if_neg hi', if_neg (by omega)]
        · cases he
      · rename_i hge
        split at he
        · rename_i q t' hq
          simp only [Option.some.injEq, Prod.mk.injEq] at he
          obtain ⟨rfl, rfl⟩ := he
          obtain ⟨e1, e2, e3⟩ := setD_spec hq hp
          refine ⟨by simp only [nc]; omega, by simp only [nc]; omega, fun i hi => ?_⟩
          simp only [nc] at hi
          simp only [cell]
          by_cases hi' : i < nc h
          · rw [if_pos hi', if_pos hi', if_neg (by omega)]
          · rw [if_neg hi', if_neg hi', e3 _ (by omega)]
            by_cases hc : o - nc h ≤ i - nc h ∧ i - nc h < o - nc h + nc r
            · rw [if_pos hc, if_pos (by omega)]
              congr 1
              omega
            · rw [if_neg hc, if_neg (by omega)]
        · cases he
  | .arr k n f, top, o, p, d', he, hp => by
    simp only [setD] at he
    split at he
    · rename_i k' x
      split at he
      · rename_i hk
        subst hk
        simp only [Option.some.injEq, Prod.mk.injEq] at he
        obtain ⟨rfl, rfl⟩ := he
        refine ⟨rfl, by simp only [nc]; omega, fun i hi => ?_⟩
        have h1 : nc (.v (.int k x)) = 1 := rfl
        by_cases hc : i = o
        · rw [if_pos (by omega)]
          simp [cell, updI, hc]
        · rw [if_neg (by omega)]
          simp [cell, updI, hc]
      · cases he
    · rename_i k' n' g
      split at he
      · rename_i hc
        obtain ⟨rfl, rfl, rfl⟩ := hc
        simp only [Option.some.injEq, Prod.mk.injEq] at he
        obtain ⟨rfl, rfl⟩ := he
        refine ⟨rfl, by simp [nc], fun i hi => ?_⟩
        have h1 : nc (.arr k n g) = n := rfl
        simp only [nc] at hi
        rw [if_pos (by omega)]
        simp
      · cases he
    · cases he
  | .nil, _, _, _, _, he, _ => by simp [setD] at he
  | .tup _, _, _, _, _, he, _ => by simp [setD] at he
  | .v _, _, _, _, _, he, hp => by simp only [setD] at he; exact setD_leaf rfl he hp
  | .sl .., _, _, _, _, he, hp => by simp only [setD] at he; exact setD_leaf rfl he hp
  | .ip _, _, _, _, _, he, hp => by simp only [setD] at he; exact setD_leaf rfl he hp
  | .ptr .., _, _, _, _, he, hp => by simp only [setD] at he; exact setD_leaf rfl he hp
  | .own .., _, _, _, _, he, hp => by simp only [setD] at he; exact setD_leaf rfl he hp
  | .osl .., _, _, _, _, he, hp => by simp only [setD] at he; exact setD_leaf rfl he hp
  | .fn .., _, _, _, _, he, hp => by simp only [setD] at he; exact setD_leaf rfl he hp
  | .dead, _, _, _, _, he, hp => by simp only [setD] at he; exact setD_leaf rfl he hp

theorem run_storeCells_un (P : Program) (g : Nat) (t : TypeId) (fz : Nat × Nat) : ∀ (vs : List Value) (o i : Nat) (cur : Array Value) (w : World), w.heap[g]? = some (.cells cur t fz) → o + i + vs.length ≤ cur.size → unfro fz cur.size → (∀ v ∈ vs, v.oneCell' = true) →
    (storeCells ⟨g, o, none⟩ vs i).run P w = .ok () (w.setRow g (cur.toList.take (o + i) ++ vs ++ cur.toList.drop (o + i + vs.length)).toArray)
  | [], o, i, cur, w, hg, _, _, _ => by
    simp only [storeCells, List.append_nil, List.length_nil, Nat.add_zero, List.take_append_drop, Array.toArray_toList]
    rw [setRow_self w g cur t fz hg]
    rfl
  | v :: rest, o, i, cur, w, hg, hl, hfr, h1 => by
    have hi : o + i < cur.size := by simp at hl; omega
    have hadd : (⟨g, o, none⟩ : Addr).add i = ⟨g, o + i, none⟩ := addr_add g o i
    have hcell : w.cell? ⟨g, o + i, none⟩ = some cur[o + i] := by simp [World.cell?, hg, hi]
    have hfro : w.frozen? ⟨g, o + i, none⟩ = false := by
      simp only [World.frozen?, hg]
      rcases hfr with h | h
      · simp [h]
      · simp; omega
    have hst : (store ((⟨g, o, none⟩ : Addr).add i) v).run P w = .ok () (w.setRow g (cur.setIfInBounds (o + i) v)) := by
      rw [hadd, run_store P w _ v _ (h1 v (by simp)), hcell]
      simp [hfro, setCell_eq_setRow w g (o + i) cur t fz v hg]
    have ih := run_storeCells_un P g t fz rest o (i + 1) (cur.setIfInBounds (o + i) v) (w.setRow g (cur.setIfInBounds (o + i) v)) (setRow_heap w g cur _ t _ hg) (by simp at hl ⊢; omega) (by simpa using hfr) (fun x hx => h1 x (by simp [hx]))
    simp only [storeCells, Sem.run_bind, hst, Result.andThen_ok, ih, setRow_setRow]
    congr 3
    have e := list_seg_step cur.toList (o + i) v rest (by simp at hl ⊢; omega)
    simpa [Array.toList_setIfInBounds, Nat.add_assoc] using e

theorem seg_get (cur : Array Value) (vs : List Value) (o : Nat) (h : o + vs.length ≤ cur.size) (i : Nat) (hi : i < cur.size) : (cur.toList.take o ++ vs ++ cur.toList.drop (o + vs.length)).toArray[i]? = if o ≤ i ∧ i < o + vs.length then vs[i - o]? else cur[i]? := by
  simp only [List.getElem?_toArray]
  have h1 : (cur.toList.take o).length = o := by simp; omega
  by_cases h2 : i < o
  · rw [if_neg (by omega), List.append_assoc, List.getElem?_append_left (by omega), List.getElem?_take, if_pos h2]; simp
  · by_cases h3 : i < o + vs.length
    · rw [if_pos (by omega), List.getElem?_append_left (by simp; omega), List.getElem?_append_right (by omega), h1]
    · rw [if_neg (by omega), List.getElem?_append_right (by simp; omega), List.getElem?_drop]
      simp only [List.length_append, h1]
      rw [show o + vs.length + (i - (o + vs.length)) = i by omega]
      simp
theorem seg_size (cur : Array Value) (vs : List Value) (o : Nat) (h : o + vs.length ≤ cur.size) : (cur.toList.take o ++ vs ++ cur.toList.drop (o + vs.length)).toArray.size = cur.size := by
  simp; omega

/-- an own block is written -/
theorem WR.setRow {C : Cx} {h : List (Option Bk)} {bs : List (Option Nat)} {w : World} (hw : WR C h bs w) {l b : Nat} (hb : bs[l]? = some (some b)) {cur cs : Array Value} {T : TypeId} {fz : Nat × Nat} {k : Bk} (hg : w.heap[b]? = some (.cells cur T fz)) (hs : cs.size = cur.size)
    (hk : Ext C w bs (w.setRow b cs) bs → BR C (w.setRow b cs) bs b k) : WR C (h.set l (some k)) bs (w.setRow b cs) ∧ Ext C w bs (w.setRow b cs) bs := by
  have hsz : (w.setRow b cs).heap.size = w.heap.size := by simp [World.setRow]
  have hE : Ext C w bs (w.setRow b cs) bs := by
    refine ⟨fun b' hb' => ⟨⟨hb'.1, by rw [hsz]; exact hb'.2.1, hb'.2.2⟩, setRow_other _ _ _ _ (fun e => hb'.2.2 l (by rw [e]; exact hb))⟩, fun i b' hb' => ⟨hb', ?_⟩⟩
    by_cases e : b' = b
    · subst e
      unfold World.shape?
      rw [setRow_heap w b' cur cs T fz hg, hg]
      simp [hs]
    · exact shape_of_heap (setRow_other _ _ _ _ e)
  refine ⟨⟨by simp [hw.len], hw.inj, fun i b' hi => by rw [hsz]; exact hw.ok i b' hi, fun i k' hk' => ?_, ?_, hw.gl, hw.g0, hw.tok, hw.mix, hw.s0, fun i b hi => ⟨(hE.ow i b (hw.fix i b hi).1).1, (hE.ow i b (hw.fix i b hi).1).2.trans (hw.fix i b hi).2⟩⟩, hE⟩
  · rw [List.getElem?_set] at hk'
    split at hk'
    · rename_i hil
      subst hil
      split at hk'
      · simp at hk'; subst hk'; exact .inl ⟨b, hb, hk hE⟩
      · cases hk'
    · rename_i hil
      rcases hw.blk i k' hk' with ⟨b', hb', hB⟩ | h0
      · refine .inl ⟨b', hb', hB.ext hE (setRow_other _ _ _ _ (fun e => hil ?_))⟩
        subst e
        exact (hw.inj i l b' hb' hb).symm
      · exact .inr h0
  · have hf := hw.fr
    exact ⟨hf.os, hf.tape, hf.output, by rw [hsz]; exact hf.size, fun b' hb' => (setRow_other _ _ _ _ (fun e => (hw.ok l b hb).2 (by rw [← e]; exact hb'))).trans (hf.block b' hb')⟩

def storeF (T : Nat → Option TE) (h : List (Option Bk)) (t : Nat) (p r : D) : Option (Prop × List (Option Bk)) :=
  match T t, p with
  | some e, .ptr l o =>
    match h[l]? with
    | some (some (.one d)) => if (nc r == e.sz && (aggB r || scB r)) = true then (match setD r true d o with | some (q, d') => some (q, h.set l (some (.one d'))) | none => none) else none
    | _ => none
  | _, _ => none
theorem all_isC {C : Cx} {w : World} {bs : List (Option Nat)} {x : Value} {d : D} (h : RV C w bs x d) (hd : (aggB d || scB d) = true) : ∀ v ∈ x.cells.toList, v.oneCell' = true := by
  intro v hv
  obtain ⟨i, hi, rfl⟩ := List.getElem_of_mem hv
  have := (cells_of_RV h hd).2 i (by simpa using hi)
  exact isC_one this.isC
theorem DO_store {C : Cx} {o : Oper} {st : St} {t : Nat} {x y : Operand} {p : Prop} {h' : List (Option Bk)} (ho : o.op = .store t x y) (hd : dstB C o = true) (hf : storeF C.T st.h t (evD C st x) (evD C st y) = some (p, h')) (hp : p) : DO C o st (St.put { st with h := h' } o.dst .dead) := by
  intro bs a w hr
  have hx := RV_evD hr x
  have hy := RV_evD hr y
  unfold storeF at hf
  split at hf
  · rename_i e l off hT hpt
    rw [hpt] at hx
    split at hf
    · rename_i d hl
      split at hf
      · rename_i hc
        simp only [Bool.and_eq_true, beq_iff_eq] at hc
        obtain ⟨hc1, hc2⟩ := hc
        split at hf
        · rename_i q d' hs
          simp only [Option.some.injEq, Prod.mk.injEq] at hf
          obtain ⟨rfl, rfl⟩ := hf
          obtain ⟨s1, s2, s3⟩ := setD_spec hs hp
          obtain ⟨b, hx', hb⟩ := RV_ptr hx
          obtain ⟨cs, T, fz, g1, g2, g3, g4⟩ := hr.wr.at hl hb
          obtain ⟨y1, y2⟩ := cells_of_RV hy hc2
          obtain ⟨ti, de, zv, hF, _⟩ := tok_of hr.wr.tok hT
          have hlen : (a.eval y).cells.toList.length = nc (evD C st y) := by simpa using y1
          have hrun := run_storeCells_un C.P b T fz (a.eval y).cells.toList off 0 cs w g1 (by omega) g3 (all_isC hy hc2)
          simp only [Nat.add_zero] at hrun
          have hrun2 : (execOp a.eval o).run C.P w = .ok .skip (w.setRow b (cs.toList.take off ++ (a.eval y).cells.toList ++ cs.toList.drop (off + (a.eval y).cells.toList.length)).toArray) := by
            simp [execOp, ho, hx', Instr.storeAt, Instr.sureAddr, storeVar, Sem.run_bind, hF.sizeOf w, y1, hc1] at hrun ⊢
            rw [hrun]
            rfl
          rw [hrun2]
          have hsz := seg_size cs (a.eval y).cells.toList off (by omega)
          have hgetN := seg_get cs (a.eval y).cells.toList off (by omega)
          generalize (cs.toList.take off ++ (a.eval y).cells.toList ++ cs.toList.drop (off + (a.eval y).cells.toList.length)).toArray = N at hsz hgetN ⊢
          have hBR : Ext C w bs (w.setRow b N) bs → BR C (w.setRow b N) bs b (.one d') := by
            intro hE
            refine ⟨N, T, fz, setRow_heap _ _ _ _ _ _ g1, by rw [hsz, g2, s1], by rw [hsz]; exact g3, fun i hi => ?_⟩
            have e0 : N[i]? = some N[i] := Array.getElem?_eq_getElem hi
            generalize N[i] = v at e0
            rw [hsz] at hi
            have hget := hgetN i hi
            rw [e0] at hget
            rw [s3 i (by omega)]
            rw [hlen] at hget
            by_cases hin : off ≤ i ∧ i < off + nc (evD C st y)
            · rw [if_pos hin] at hget ⊢
              have hlt : i - off < (a.eval y).cells.size := by omega
              have e1 : (a.eval y).cells.toList[i - off]? = some (a.eval y).cells[i - off] := by simp [hlt]
              rw [e1] at hget
              simp only [Option.some.injEq] at hget
              rw [hget]
              exact (y2 (i - off) hlt).ext hE
            · rw [if_neg hin] at hget ⊢
              have e1 : cs[i]? = some cs[i] := by simp
              rw [e1] at hget
              simp only [Option.some.injEq] at hget
              rw [hget]
              exact (g4 i hi).ext hE
          obtain ⟨w1, w2⟩ := hr.wr.setRow (k := .one d') hb g1 hsz hBR
          exact ⟨bs, Rel.put (st := { st with h := st.h.set l (some (.one d')) }) ⟨hr.defers, hr.size, fun t => RV.ext w2 (hr.slots t), w1⟩ (dstB_spec hd) RV_undef⟩
        · cases hf
      · cases hf
    · cases hf
  · cases hf
end Go.Proofs.YtpibemolnjmgoaaDoor
