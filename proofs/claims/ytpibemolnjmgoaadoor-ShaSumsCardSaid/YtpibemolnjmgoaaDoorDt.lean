/- Structs and arrays that are built; copy. It speaks of no program of ours. -/
import Derived.Test.YtpibemolnjmgoaaDoorDr
namespace Go.Proofs.YtpibemolnjmgoaaDoor
set_option linter.unusedSimpArgs false
set_option linter.unusedVariables false
open Go.RowKit

def buildL (place : Nat → Option (Nat × Nat)) : List (Nat × D) → D → Option (Prop × D)
  | [], d => some (True, d)
  | (i, r) :: ps, d =>
    match place i with
    | some (off, size) =>
      if (nc r == size && (aggB r || scB r)) = true then
        match setD r true d off with
        | some (p, d') => match buildL place ps d' with
          | some (q, d'') => some (p ∧ q, d'')
          | none => none
        | none => none
      else none
    | none => none
theorem fill_buildL {C : Cx} {w : World} {bs : List (Option Nat)} {place : Nat → Option (Nat × Nat)} : ∀ (ps : List (Nat × D)) (vs : List (Nat × Value)) (d : D) (cells : Array Value) {p : Prop} {d' : D}, buildL place ps d = some (p, d') → p →
    vs.length = ps.length → (∀ i (h1 : i < vs.length) (h2 : i < ps.length), vs[i].1 = ps[i].1 ∧ RV C w bs vs[i].2 ps[i].2) → cells.size = nc d → (∀ i (hi : i < cells.size), R1 C w bs cells[i] (cell d i)) →
    ∃ out, Instr.fill place cells vs = some out ∧ out.size = nc d' ∧ ∀ i (hi : i < out.size), R1 C w bs out[i] (cell d' i)
  | [], [], d, cells, p, d', hb, hp, _, _, hn, hc => by
    simp only [buildL, Option.some.injEq, Prod.mk.injEq] at hb
    obtain ⟨_, rfl⟩ := hb
    exact ⟨cells, rfl, hn, hc⟩
  | [], _ :: _, _, _, _, _, _, _, hl, _, _, _ => by simp at hl
  | _ :: _, [], _, _, _, _, _, _, hl, _, _, _ => by simp at hl
  | (i, r) :: ps, (i', v) :: vs, d, cells, p, d', hb, hp, hl, hv, hn, hc => by
    obtain ⟨h1, h2⟩ := hv 0 (by simp) (by simp)
    simp only [List.getElem_cons_zero] at h1 h2
    subst h1
    simp only [buildL] at hb
    split at hb
    · rename_i off size hpl
      split at hb
      · rename_i hcond
        simp only [Bool.and_eq_true, beq_iff_eq] at hcond
        obtain ⟨hc1, hc2⟩ := hcond
        split at hb
        · rename_i q d1 hs
          split at hb
          · rename_i q2 d2 hb2
            simp only [Option.some.injEq, Prod.mk.injEq] at hb
            obtain ⟨rfl, rfl⟩ := hb
            obtain ⟨s1, s2, s3⟩ := setD_spec hs hp.1
            obtain ⟨v1, v2⟩ := cells_of_RV h2 hc2
            have hf := fun k => fold_set v.cells.toList off 0 cells k (by simp; omega)
            have hsz := (hf 0).1
            generalize hN : ((v.cells.toList.zipIdx 0).foldl (fun cs (p : Value × Nat) => cs.setIfInBounds (off + p.2) p.1) cells) = N at hf hsz
            obtain ⟨out, e1, e2, e3⟩ := fill_buildL ps vs d1 N hb2 hp.2 (by simpa using hl) (fun k a b => hv (k + 1) (by simpa using a) (by simpa using b)) (by rw [hsz, hn, s1]) (fun k hk => by
              have hk' : k < cells.size := by omega
              have h4 := (hf k).2
              simp only [Nat.add_zero, Array.length_toList] at h4
              have e0 : N[k]? = some N[k] := Array.getElem?_eq_getElem hk
              generalize N[k] = y at e0
              rw [e0] at h4
              rw [s3 k (by omega)]
              by_cases hin : off ≤ k ∧ k < off + nc r
              · rw [if_pos (by omega)] at h4
                rw [if_pos hin]
                have hlt : k - off < v.cells.size := by omega
                have e5 : v.cells.toList[k - off]? = some v.cells[k - off] := by simp [hlt]
                rw [e5] at h4
                simp only [Option.some.injEq] at h4
                rw [h4]
                exact v2 _ hlt
              · rw [if_neg (by omega)] at h4
                rw [if_neg hin]
                have e5 : cells[k]? = some cells[k] := Array.getElem?_eq_getElem hk'
                rw [e5] at h4
                simp only [Option.some.injEq] at h4
                rw [h4]
                exact hc k hk')
            refine ⟨out, ?_, e2, e3⟩
            simp only [Instr.fill, hpl]
            rw [if_neg (by simp; omega)]
            have : (v.cells.zipIdx.foldl (fun cs (x : Value × Nat) => cs.setIfInBounds (off + x.2) x.1) cells) = N := by
              rw [← hN, ← Array.foldl_toList, Array.toList_zipIdx]
            rw [← e1]
            congr 1
          · cases hb
        · cases hb
      · cases hb
    · cases hb
def placeS (T : Nat → Option TE) (fs : List (Nat × Nat)) (i : Nat) : Option (Nat × Nat) :=
  match fs[i]? with
  | some (t, off) => (match T t with | some e => some (off, e.sz) | none => none)
  | none => none
def buildF (T : Nat → Option TE) (t : Nat) (idx : List Nat) (xs : List D) : Option (Prop × D) :=
  match T t with
  | some ⟨.array _ el, _, _, z⟩ => match T el with
    | some e => match buildL (fun i => some (i * e.sz, e.sz)) (idx.zip xs) z with
      | some (p, d) => some (p ∧ aggB d = true, d)
      | none => none
    | none => none
  | some ⟨.struct fs, _, _, z⟩ =>
    match buildL (placeS T fs) (idx.zip xs) z with
    | some (p, d) => some (p ∧ aggB d = true ∧ ∀ q ∈ fs, (T q.1).isSome = true, d)
    | none => none
  | _ => none
theorem mapM_places {C : Cx} (hT : TOK C.P C.T) (w : World) : ∀ (l : List Field), (∀ f ∈ l, (C.T f.type).isSome = true) →
    (l.mapM (fun f => do pure (f.offset, ← sizeOf f.type) : Field → Sem (Nat × Nat))).run C.P w = .ok (l.map fun f => (f.offset, ((C.T f.type).map (·.sz)).getD 0)) w
  | [], _ => by simp
  | f :: l, h => by
    obtain ⟨e, he⟩ := Option.isSome_iff_exists.1 (h f (by simp))
    obtain ⟨ti, de, zv, hF, _⟩ := tok_of hT he
    have ih := mapM_places hT w l (fun g hg => h g (by simp [hg]))
    simp only [List.mapM_cons, Sem.run_bind, hF.sizeOf w, Result.andThen_ok, Sem.run_pure]
    rw [ih]
    simp [he]
theorem DQ_build {C : Cx} {o : Oper} {h : List (Option Bk)} {t : Nat} {parts : Array (Nat × Operand)} {xs : List D} {p : Prop} {d : D} (ho : o.op = .build t parts) (hf : buildF C.T t (parts.toList.map (·.1)) xs = some (p, d)) (hp : p) : DQ C o xs h d := DQ_val fun bs w ρ hw ha => by
  rw [ho] at ha
  have ha' : All2 (fun x d => RV C w bs (ρ x) d) (parts.toList.map (·.2)) xs := by simpa [Op.operands] using ha
  obtain ⟨n1, n2⟩ := ha'.get
  have hlen : xs.length = parts.toList.length := by rw [← n1]; simp
  have hvs : ∀ i (h1 : i < (parts.toList.map (fun p => (p.1, ρ p.2))).length) (h2 : i < ((parts.toList.map (·.1)).zip xs).length), (parts.toList.map (fun p => (p.1, ρ p.2)))[i].1 = ((parts.toList.map (·.1)).zip xs)[i].1 ∧ RV C w bs (parts.toList.map (fun p => (p.1, ρ p.2)))[i].2 ((parts.toList.map (·.1)).zip xs)[i].2 := fun i h1 h2 => by
    have hi : i < parts.toList.length := by simpa using h1
    have := n2 i (by simpa using hi) (by omega)
    rw [List.getElem_map] at this
    rw [List.getElem_map, List.getElem_zip]
    exact ⟨by simp, this⟩
  have hll : (parts.toList.map (fun p => (p.1, ρ p.2))).length = ((parts.toList.map (·.1)).zip xs).length := by simp [hlen]
  unfold buildF at hf
  split at hf
  · rename_i n el sz by_ z hT
    split at hf
    · rename_i e hE
      split at hf
      · rename_i q r hb
        simp only [Option.some.injEq, Prod.mk.injEq] at hf
        obtain ⟨rfl, rfl⟩ := hf
        obtain ⟨hq, hag⟩ := hp
        obtain ⟨ti, dt, zv, hF, hz, hzB⟩ := tok_of hw.tok hT
        obtain ⟨ti2, de, _, hF2, _⟩ := tok_of hw.tok hE
        have hd := hF.desc
        cases dt <;> simp only [descB] at hd <;> try cases hd
        simp only [Bool.and_eq_true, beq_iff_eq] at hd
        obtain ⟨rfl, rfl⟩ := hd
        obtain ⟨z1, z2⟩ := zB_spec hzB
        obtain ⟨out, e1, e2, e3⟩ := fill_buildL (C := C) (w := w) (bs := bs) _ _ z zv.cells hb hq hll hvs z1 (fun i hi => by rw [(z2 i hi).1]; exact .im (.v (z2 i hi).2))
        refine ⟨.agg out, ?_, (RV_agg hag).2 ⟨out, rfl, e2, e3⟩⟩
        have e1' : Instr.fill (fun i => some (i * e.sz, e.sz)) zv.cells (parts.map (fun p => (p.1, ρ p.2))).toList = some out := by rw [Array.toList_map]; exact e1
        have hrun : (Instr.build t (parts.map (fun p => (p.1, ρ p.2)))).run C.P w = .ok (.agg out) w := by
          unfold Instr.build
          simp only [Sem.run_bind, hF.underlying w, hF2.sizeOf w, zeroValue, typeInfo, hF.info, hz, run_program, Result.andThen_ok, Sem.run_pure]
          rw [e1']
          rfl
        simp only [execOp, ho]
        have : (parts.map fun (i, x) => (i, ρ x)) = parts.map (fun p => (p.1, ρ p.2)) := rfl
        rw [this]
        simp [hrun]
      · cases hf
    · cases hf
  · rename_i fs sz by_ z hT
    split at hf
    · rename_i q r hb
      simp only [Option.some.injEq, Prod.mk.injEq] at hf
      obtain ⟨rfl, rfl⟩ := hf
      obtain ⟨hq, hag, hall⟩ := hp
      obtain ⟨ti, dt, zv, hF, hz, hzB⟩ := tok_of hw.tok hT
      have hd := hF.desc
      cases dt <;> simp only [descB] at hd <;> try cases hd
      rename_i gs
      obtain ⟨z1, z2⟩ := zB_spec hzB
      have hfs := eq_of_beq hd
      have hplaces : placeS C.T fs = fun i => (gs.toList.map fun f => (f.offset, ((C.T f.type).map (·.sz)).getD 0))[i]? := by
        funext i
        unfold placeS
        rw [← hfs]
        simp only [List.getElem?_map]
        cases hg : gs.toList[i]? with
        | none => simp
        | some f =>
          have hmem : f ∈ gs.toList := List.mem_of_getElem? hg
          have h1 := hall (f.type, f.offset) (by rw [← hfs]; exact List.mem_map_of_mem hmem)
          obtain ⟨e, he⟩ := Option.isSome_iff_exists.1 h1
          simp [he]
      rw [hplaces] at hb
      obtain ⟨out, e1, e2, e3⟩ := fill_buildL (C := C) (w := w) (bs := bs) _ _ z zv.cells hb hq hll hvs z1 (fun i hi => by rw [(z2 i hi).1]; exact .im (.v (z2 i hi).2))
      refine ⟨.agg out, ?_, (RV_agg hag).2 ⟨out, rfl, e2, e3⟩⟩
      have hm := mapM_places (C := C) hw.tok w gs.toList (fun f hf => hall (f.type, f.offset) (by rw [← hfs]; exact List.mem_map_of_mem hf))
      have e1' : Instr.fill (fun i => (gs.toList.map fun f => (f.offset, ((C.T f.type).map (·.sz)).getD 0))[i]?) zv.cells (parts.map (fun p => (p.1, ρ p.2))).toList = some out := by rw [Array.toList_map]; exact e1
      have hmA : (gs.mapM (fun f => do pure (f.offset, ← sizeOf f.type) : Field → Sem (Nat × Nat))).run C.P w = .ok (gs.toList.map fun f => (f.offset, ((C.T f.type).map (·.sz)).getD 0)).toArray w := by
        rw [Array.mapM_eq_mapM_toList, Sem.run_map, hm]
        rfl
      have hrun : (Instr.build t (parts.map (fun p => (p.1, ρ p.2)))).run C.P w = .ok (.agg out) w := by
        unfold Instr.build
        simp only [Sem.run_bind, hF.underlying w, zeroValue, typeInfo, hF.info, hz, run_program, Result.andThen_ok, Sem.run_pure, hmA]
        have e6 : (fun (x : Nat) => (gs.toList.map fun f => (f.offset, ((C.T f.type).map (·.sz)).getD 0)).toArray[x]?) = fun i => (gs.toList.map fun f => (f.offset, ((C.T f.type).map (·.sz)).getD 0))[i]? := by funext i; simp
        rw [e6, e1']
        rfl
      simp only [execOp, ho]
      have : (parts.map fun (i, x) => (i, ρ x)) = parts.map (fun p => (p.1, ρ p.2)) := rfl
      rw [this]
      simp [hrun]
    · cases hf
  · cases hf

/-! ### copy into an array of one's own -/
def cpyI (f : Nat → Int) (o m : Nat) (g : Nat → Int) : Nat → Int := fun j => if o ≤ j ∧ j < o + m then g (j - o) else f j
def intOfD : D → Int
  | .v (.int _ n) => n
  | _ => 0
def isK (k : IntKind) : D → Prop
  | .v (.int k' _) => k' = k
  | _ => False
theorem isK_of {k : IntKind} {d : D} (h : isK k d) : d = .v (.int k (intOfD d)) := by
  unfold isK at h
  split at h
  · subst h; rfl
  · exact h.elim
theorem DO_copy {C : Cx} {o : Oper} {st : St} {x y : Operand} {t u el l off n m : Nat} {e : TE} {b1 b2 : Nat} {z1 : D} {k : IntKind} {N : Nat} {f : Nat → Int} {es : List D} {p : Prop} (ho : o.op = .call { callee := .builtin .copy, args := #[x, y], argTypes := #[t, u] }) (hd : dstB C o = true) (hT : C.T t = some ⟨.slice el, b1, b2, z1⟩) (hE : C.T el = some e) (hsz : e.sz = 1)
    (hx : evD C st x = .osl l off n) (hl : st.h[l]? = some (some (.one (.arr k N f)))) (hy : srcD st.h (evD C st y) = some (p, es)) (hp : p) (hm : m = min es.length n) (hk : ∀ d ∈ es, isK k d) (hN : off + n ≤ N) (hn : 0 < n) :
    DO C o st (St.put { st with h := st.h.set l (some (.one (.arr k N (cpyI f off m (fun i => intOfD (es.getD i .dead)))))) } o.dst (.v (.int .i64 (m : Int)))) := by
  intro bs a w hr
  have hxv := RV_evD hr x
  rw [hx] at hxv
  obtain ⟨aa, cap, hxe, hcap, hor⟩ := RV_osl hxv
  rcases hor with h0 | ⟨b, rfl, hb⟩
  · omega
  obtain ⟨ti, dt, _, hF, _⟩ := tok_of hr.wr.tok hT
  obtain ⟨ti2, de, _, hF2, _⟩ := tok_of hr.wr.tok hE
  have hdd := hF.desc
  cases dt <;> simp only [descB] at hdd <;> try cases hdd
  simp only [beq_iff_eq] at hdd
  subst hdd
  obtain ⟨cs, T, fz, g1, g2, g3, g4⟩ := hr.wr.at hl hb
  simp only [nc] at g2
  have hpure : ∀ d ∈ es, pureD d = true ∧ nc d = 1 := fun d hd' => by rw [isK_of (hk d hd')]; exact ⟨rfl, rfl⟩
  obtain ⟨news, hsrc, hcr⟩ := src_spec hr.wr (RV_evD hr y) hy hp hpure
  have hnl : news.length = es.length := by have := hcr.1; omega
  -- the first m cells
  have hmle : m ≤ es.length := by omega
  have hfc := hsrc.pre m hmle w rfl
  rw [Nat.mul_one] at hfc
  have htl : (news.take m).length = m := by rw [List.length_take]; omega
  have hrunS := run_storeCells_un C.P b T fz (news.take m) off 0 cs w g1 (by omega) g3 (fun v hv => hsrc.one v (List.mem_of_mem_take hv))
  simp only [Nat.add_zero] at hrunS
  have hrun : (execOp a.eval o).run C.P w = .ok (.value (.int .i64 (m : Int))) (w.setRow b (cs.toList.take off ++ news.take m ++ cs.toList.drop (off + (news.take m).length)).toArray) := by
    have hc : (Builtin.copy_ #[t, u] o.type #[.slice (some ⟨b, off, none⟩) n cap, a.eval y]).run C.P w = .ok (.int .i64 (m : Int)) (w.setRow b (cs.toList.take off ++ news.take m ++ cs.toList.drop (off + (news.take m).length)).toArray) := by
      unfold Builtin.copy_
      have e0 : ∀ w', (Builtin.lenOf (a.eval y)).run C.P w' = .ok es.length w' := hsrc.len
      have e1 : Nat.min es.length n = m := hm.symm
      simp only [List.getElem?_toArray, List.getElem?_cons_zero, List.getElem?_cons_succ, Sem.run_bind, hF.underlying w, hF2.sizeOf w, hsz, e0, Result.andThen_ok, e1, hfc, hrunS, goInt, Sem.run_pure]
    simp [execOp, ho, resolve, invoke, builtin, Sem.run_bind, hxe, hc]
  rw [hrun]
  have hszN := seg_size cs (news.take m) off (by omega)
  have hgetN := seg_get cs (news.take m) off (by omega)
  generalize (cs.toList.take off ++ news.take m ++ cs.toList.drop (off + (news.take m).length)).toArray = N' at hszN hgetN ⊢
  have hBR : Ext C w bs (w.setRow b N') bs → BR C (w.setRow b N') bs b (.one (.arr k N (cpyI f off m (fun i => intOfD (es.getD i .dead))))) := by
    intro hE
    refine ⟨N', T, fz, setRow_heap _ _ _ _ _ _ g1, by rw [hszN, g2]; rfl, by rw [hszN]; exact g3, fun i hi => ?_⟩
    have e0 : N'[i]? = some N'[i] := Array.getElem?_eq_getElem hi
    generalize N'[i] = v at e0
    rw [hszN] at hi
    have hget := hgetN i hi
    rw [e0, htl] at hget
    simp only [cell, cpyI]
    by_cases hin : off ≤ i ∧ i < off + m
    · rw [if_pos hin] at hget ⊢
      rw [List.getElem?_take, if_pos (by omega)] at hget
      obtain ⟨x', hx', hr'⟩ := hcr.2.2 (i - off) 0 (by omega) (by omega)
      rw [Nat.mul_one, Nat.add_zero, ← hget] at hx'
      simp only [Option.some.injEq] at hx'
      subst hx'
      have hes : es.getD (i - off) .dead = es[i - off]'(by omega) := by simp [List.getD_eq_getElem?_getD, show i - off < es.length by omega]
      have hkk := isK_of (hk (es[i - off]'(by omega)) (List.getElem_mem _))
      rw [hes]
      rw [hkk] at hr'
      exact R1.im (hr'.mono hE.im)
    · rw [if_neg hin] at hget ⊢
      have e1 : cs[i]? = some cs[i] := Array.getElem?_eq_getElem hi
      rw [e1] at hget
      simp only [Option.some.injEq] at hget
      rw [hget]
      exact (g4 i hi).ext hE
  obtain ⟨w1, w2⟩ := hr.wr.setRow (k := .one (.arr k N (cpyI f off m (fun i => intOfD (es.getD i .dead))))) hb g1 hszN hBR
  exact ⟨bs, Rel.put (st := { st with h := st.h.set l (some (.one (.arr k N (cpyI f off m (fun i => intOfD (es.getD i .dead)))))) }) ⟨hr.defers, hr.size, fun t => RV.ext w2 (hr.slots t), w1⟩ (dstB_spec hd) (R1.im (.v rfl))⟩
end Go.Proofs.YtpibemolnjmgoaaDoor
