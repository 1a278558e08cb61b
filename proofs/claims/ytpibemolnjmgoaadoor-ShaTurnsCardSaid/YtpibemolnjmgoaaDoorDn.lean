/- Append, new rows, conversions that make a row: as steps from one state to another. It speaks of no program of ours. -/
import Derived.Test.YtpibemolnjmgoaaDoorDm
namespace Go.Proofs.YtpibemolnjmgoaaDoor
set_option linter.unusedSimpArgs false
set_option linter.unusedVariables false
open Go.RowKit

theorem RVo {C : Cx} {w : World} {bs : List (Option Nat)} {x : Value} {l n T sz : Nat} (h : R1 C w bs x (.own l n T sz)) : RV C w bs x (.own l n T sz) := h
theorem WR.more {C : Cx} {h : List (Option Bk)} {bs : List (Option Nat)} {w w' : World} (hw : WR C h bs w) {ob : Option Nat} {k : Bk} (hsz : w.heap.size ≤ w'.heap.size) (hos : w'.os = w.os) (hta : w'.tape = w.tape) (hou : w'.output = w.output)
    (hold : ∀ b, b < w.heap.size → w'.heap[b]? = w.heap[b]?) (hb' : ∀ b', ob = some b' → w.heap.size ≤ b' ∧ b' < w'.heap.size)
    (hk : Ext C w bs w' (bs ++ [ob]) → (∃ b', ob = some b' ∧ BR C w' (bs ++ [ob]) b' k) ∨ (∃ T sz, k = .row [] T sz ∧ ob = none)) : WR C (h ++ [some k]) (bs ++ [ob]) w' ∧ Ext C w bs w' (bs ++ [ob]) := by
  have hget : ∀ (i b : Nat), (bs ++ [ob])[i]? = some (some b) → (bs[i]? = some (some b)) ∨ (i = bs.length ∧ ob = some b) := fun i b hi => by
    rcases Nat.lt_or_ge i bs.length with hl | hl
    · rw [List.getElem?_append_left hl] at hi; exact .inl hi
    · rw [List.getElem?_append_right hl] at hi
      rcases Nat.eq_zero_or_pos (i - bs.length) with h0 | h0
      · rw [h0] at hi; simp at hi; exact .inr ⟨by omega, hi⟩
      · rw [List.getElem?_eq_none (by simp; omega)] at hi; cases hi
  have hE : Ext C w bs w' (bs ++ [ob]) := by
    refine ⟨fun b hb => ⟨⟨hb.1, Nat.lt_of_lt_of_le hb.2.1 hsz, fun i hi => ?_⟩, hold b hb.2.1⟩, fun i b hb => ⟨?_, shape_of_heap (hold b (hw.ok i b hb).1)⟩⟩
    · rcases hget i b hi with h1 | ⟨_, h1⟩
      · exact hb.2.2 i h1
      · have := (hb' b h1).1; have := hb.2.1; omega
    · rw [List.getElem?_append_left (List.getElem?_eq_some_iff.1 hb).1]; exact hb
  have hsz0 := hw.fr.size
  refine ⟨⟨by simp [hw.len], fun i j b hi hj => ?_, fun i b hi => ?_, fun i k' hk' => ?_, ?_, hw.gl, hw.g0, hw.tok, hw.mix, hw.s0, fun i b hi => ⟨(hE.ow i b (hw.fix i b hi).1).1, (hE.ow i b (hw.fix i b hi).1).2.trans (hw.fix i b hi).2⟩⟩, hE⟩
  · rcases hget i b hi with h1 | ⟨h1, h1'⟩ <;> rcases hget j b hj with h2 | ⟨h2, h2'⟩
    · exact hw.inj i j b h1 h2
    · have := (hw.ok i b h1).1; have := (hb' b h2').1; omega
    · have := (hw.ok j b h2).1; have := (hb' b h1').1; omega
    · omega
  · rcases hget i b hi with h1 | ⟨h1, h1'⟩
    · obtain ⟨a, c⟩ := hw.ok i b h1
      exact ⟨by omega, c⟩
    · exact ⟨(hb' b h1').2, fun hs => by have := hw.s0 _ hs; have := (hb' b h1').1; omega⟩
  · rcases Nat.lt_or_ge i h.length with hl | hl
    · rw [List.getElem?_append_left hl] at hk'
      rcases hw.blk i k' hk' with ⟨b, hb, hB⟩ | ⟨T', sz', e1, e2⟩
      · exact .inl ⟨b, (hE.ow i b hb).1, hB.ext hE (hold b (hw.ok i b hb).1)⟩
      · exact .inr ⟨T', sz', e1, by rw [List.getElem?_append_left (by rw [hw.len]; exact hl)]; exact e2⟩
    · rw [List.getElem?_append_right hl] at hk'
      rcases Nat.eq_zero_or_pos (i - h.length) with h0 | h0
      · rw [h0] at hk'
        simp at hk'
        subst hk'
        have hi : (bs ++ [ob])[i]? = some ob := by
          have : i = bs.length := by rw [hw.len]; omega
          rw [this]; simp
        rcases hk hE with ⟨b', rfl, hB⟩ | ⟨T', sz', e1, rfl⟩
        · exact .inl ⟨b', hi, hB⟩
        · exact .inr ⟨T', sz', e1, hi⟩
      · rw [List.getElem?_eq_none (by simp; omega)] at hk'; cases hk'
  · have hf := hw.fr
    exact ⟨hos.trans hf.os, hta.trans hf.tape, hou.trans hf.output, by omega, fun b hb => (hold b (by have := hw.s0 b hb; omega)).trans (hf.block b hb)⟩

theorem WR.kil {C : Cx} {h : List (Option Bk)} {bs : List (Option Nat)} {w : World} (hw : WR C h bs w) (l : Nat) : WR C (kilH l h) bs w ∧ ExtK C l w bs w bs := by
  have hE : ExtK C l w bs w bs := ⟨fun b hb => ⟨hb, rfl⟩, fun i b _ hb => ⟨hb, rfl⟩⟩
  refine ⟨⟨by simp [kilH, hw.len], hw.inj, hw.ok, fun i k hk => ?_, hw.fr, hw.gl, hw.g0, hw.tok, hw.mix, hw.s0, hw.fix⟩, hE⟩
  simp only [kilH, List.getElem?_map, Option.map_eq_some_iff] at hk
  obtain ⟨ob, hob, hk2⟩ := hk
  obtain ⟨k0, rfl, rfl⟩ := hk2
  rcases hw.blk i k0 hob with ⟨b, hb, hB⟩ | ⟨T', sz', rfl, e2⟩
  · exact .inl ⟨b, hb, hB.kilE hE rfl⟩
  · exact .inr ⟨T', sz', rfl, e2⟩
theorem kilH_row {h : List (Option Bk)} {l : Nat} {L : List D} {T sz : Nat} (hl : h[l]? = some (some (.row L T sz))) : (kilH l h).set l (some (.row L T sz)) = kilH l h := by
  apply List.ext_getElem?
  intro i
  rw [List.getElem?_set]
  split
  · rename_i e; subst e
    simp only [kilH, List.getElem?_map, hl, List.length_map]
    have : l < h.length := (List.getElem?_eq_some_iff.1 hl).1
    simp [this, kilB]
  · rfl

def appT (C : Cx) (t u el sz : Nat) (e : TE) : Prop :=
  (∃ b1 b2 z1, C.T t = some ⟨.slice el, b1, b2, z1⟩) ∧ C.T el = some e ∧ (∃ eu, C.T u = some eu ∧ (match eu.d with | .str => true | .slice _ => true | _ => false) = true) ∧ e.sz = sz ∧ 0 < e.bytes
/-- append to an own row -/
theorem DO_append {C : Cx} {o : Oper} {st : St} {s x : Operand} {t u el sz l : Nat} {e : TE} {L es : List D} {p : Prop} (ho : o.op = .call { callee := .builtin .append, args := #[s, x], argTypes := #[t, u] }) (hd : dstB C o = true) (hT : appT C t u el sz e) (hfx : C.fx l = none)
    (hs : evD C st s = .own l L.length el sz) (hl : st.h[l]? = some (some (.row L el sz))) (hx : srcD st.h (evD C st x) = some (p, es)) (hp : p) (hpure : ∀ d ∈ es, pureD d = true ∧ nc d = sz) (hb : (L.length + es.length) * e.bytes ≤ 140737488355328) :
    DO C o st (St.put ⟨fun t => kil l (st.s t), (kilH l st.h).set l (some (.row (L ++ es) el sz))⟩ o.dst (.own l (L.length + es.length) el sz)) := by
  intro bs a w hr
  obtain ⟨⟨b1, b2, z1, hT1⟩, hT2, ⟨eu, hT3, hT4⟩, hT5, hT6⟩ := hT
  have hsv := RV_evD hr s
  rw [hs] at hsv
  have hll : l < st.h.length := (List.getElem?_eq_some_iff.1 hl).1
  have hxx : (a.eval s = .slice none 0 0 ∧ L = []) ∨ (∃ b cap, a.eval s = .slice (some ⟨b, 0, none⟩) L.length cap ∧ bs[l]? = some (some b) ∧ w.shape? b = some (el, cap * sz) ∧ L.length ≤ cap ∧ cap ≤ maxLen ∧ BR C w bs b (.row L el sz)) := by
    rcases RV_own hsv with ⟨h1, h2⟩ | ⟨b, cap, h1, h2, h3, h4, h5⟩
    · exact .inl ⟨h1, List.eq_nil_of_length_eq_zero h2⟩
    · exact .inr ⟨b, cap, h1, h2, h3, h4, h5, hr.wr.at hl h2⟩
  obtain ⟨v, w', hrun, hsz, hos, hta, hou, hor⟩ := run_appendD (ty := o.type) hr.wr hT1 hT2 hT3 hT4 hT5 hT6 hxx (RV_evD hr x) hx hp hpure hb
  have hrun2 : (execOp a.eval o).run C.P w = .ok (.value v) w' := by
    simp [execOp, ho, resolve, invoke, builtin, Sem.run_bind, hrun]
  rw [hrun2]
  rcases hor with ⟨rfl, rfl, rfl, rfl⟩ | ⟨b', cap', rfl, hn, hc, hsh, hb', hnew, hold, hBR⟩
  · obtain ⟨w1, w2⟩ := hr.wr.kil l
    refine ⟨bs, Rel.put (st := ⟨fun t => Proofs.YtpibemolnjmgoaaDoor.kil l (st.s t), (kilH l st.h).set l (some (.row ([] ++ []) el sz))⟩) ⟨hr.defers, hr.size, fun t => RV.kilE w2 (hr.slots t), ?_⟩ (dstB_spec hd) (RVo R1.own0)⟩
    simp only [List.append_nil]
    rw [kilH_row hl]
    exact w1
  · have hold' : ∀ b, b < w.heap.size → bs[l]? ≠ some (some b) → w'.heap[b]? = w.heap[b]? := fun b hb hne => hold b hb (.inr hne)
    obtain ⟨w1, w2⟩ := hr.wr.renew (k := .row (L ++ es) el sz) hfx hll hsz hos hta hou hold' hb' (hnew.imp (fun h => h.2) id) (fun hE => hBR _ hE.im)
    refine ⟨bs.set l (some b'), Rel.put (st := ⟨fun t => Proofs.YtpibemolnjmgoaaDoor.kil l (st.s t), (kilH l st.h).set l (some (.row (L ++ es) el sz))⟩) ⟨hr.defers, hr.size, fun t => RV.kilE w2 (hr.slots t), w1⟩ (dstB_spec hd) (RVo (R1.own ?_ hsh hn hc))⟩
    have : l < bs.length := by rw [hr.wr.len]; exact hll
    simp [this]
/-- append to nil -/
theorem DO_append_nil {C : Cx} {o : Oper} {st : St} {s x : Operand} {t u el sz : Nat} {e : TE} {es : List D} {p : Prop} (ho : o.op = .call { callee := .builtin .append, args := #[s, x], argTypes := #[t, u] }) (hd : dstB C o = true) (hT : appT C t u el sz e)
    (hs : evD C st s = .v (.slice none 0 0)) (hx : srcD st.h (evD C st x) = some (p, es)) (hp : p) (hpure : ∀ d ∈ es, pureD d = true ∧ nc d = sz) (hb : es.length * e.bytes ≤ 140737488355328) :
    DO C o st (St.put ⟨st.s, st.h ++ [some (.row es el sz)]⟩ o.dst (.own st.h.length es.length el sz)) := by
  intro bs a w hr
  obtain ⟨⟨b1, b2, z1, hT1⟩, hT2, ⟨eu, hT3, hT4⟩, hT5, hT6⟩ := hT
  have hsv := RV_evD hr s
  rw [hs] at hsv
  obtain ⟨v, w', hrun, hsz, hos, hta, hou, hor⟩ := run_appendD (ty := o.type) (L := []) (l := 0) hr.wr hT1 hT2 hT3 hT4 hT5 hT6 (.inl ⟨(RV_v hsv).1, rfl⟩) (RV_evD hr x) hx hp hpure (by simpa using hb)
  have hrun2 : (execOp a.eval o).run C.P w = .ok (.value v) w' := by
    simp [execOp, ho, resolve, invoke, builtin, Sem.run_bind, hrun]
  rw [hrun2]
  rcases hor with ⟨rfl, _, rfl, rfl⟩ | ⟨b', cap', rfl, hn, hc, hsh, hb', hnew, hold, hBR⟩
  · obtain ⟨w1, w2⟩ := hr.wr.more (ob := none) (k := .row [] el sz) (Nat.le_refl _) rfl rfl rfl (fun _ _ => rfl) (by simp) (fun _ => .inr ⟨_, _, rfl, rfl⟩)
    exact ⟨_, Rel.put (st := ⟨st.s, st.h ++ [some (.row [] el sz)]⟩) ⟨hr.defers, hr.size, fun t => RV.ext w2 (hr.slots t), w1⟩ (dstB_spec hd) (RVo R1.own0)⟩
  · have hfresh : w.heap.size ≤ b' := by
      rcases hnew with ⟨h1, _⟩ | h1
      · exact absurd (RV_v hsv).1 h1
      · exact h1
    obtain ⟨w1, w2⟩ := hr.wr.more (ob := some b') (k := .row es el sz) hsz hos hta hou (fun b hb => hold b hb (.inl (RV_v hsv).1)) (by simp [hfresh, hb']) (fun hE => .inl ⟨b', rfl, by simpa using hBR _ hE.im⟩)
    simp only [List.length_nil, Nat.zero_add] at hn ⊢
    refine ⟨_, Rel.put (st := ⟨st.s, st.h ++ [some (.row es el sz)]⟩) ⟨hr.defers, hr.size, fun t => RV.ext w2 (hr.slots t), w1⟩ (dstB_spec hd) (RVo (R1.own ?_ hsh hn hc))⟩
    rw [← hr.wr.len]; simp

/-! ### '[]byte(s)' -/
theorem run_conv_bytes {C : Cx} {h : List (Option Bk)} {bs : List (Option Nat)} {w : World} (hw : WR C h bs w) {s t el : Nat} {b1 b2 b3 b4 b5 b6 : Nat} {z1 z2 z3 : D} (hS : C.T s = some ⟨.str, b3, b4, z2⟩) (hT : C.T t = some ⟨.slice el, b1, b2, z1⟩) (hE : C.T el = some ⟨.int .u8, b5, b6, z3⟩) (str : ByteArray) (hb : (L str).length ≤ 140737488355328) :
    ∃ cap cs, (convert s t (.string str)).run C.P w = .ok (.slice (some ⟨w.heap.size, 0, none⟩) (L str).length cap) (w.drew.alloc (.cells cs el (cs.size, cs.size + 1))) ∧ (L str).length ≤ cap ∧ cap ≤ maxLen ∧ cs.size = cap * 1 ∧ ∀ w' S, CR w' S 1 (cs.toList.take ((L str).length * 1)) ((L str).map byteD) := by
  obtain ⟨ti, ds, _, hF, _⟩ := tok_of hw.tok hS
  obtain ⟨ti2, dt, _, hF2, _⟩ := tok_of hw.tok hT
  obtain ⟨ti3, de, _, hF3, _⟩ := tok_of hw.tok hE
  have hd := hF.desc
  have hd2 := hF2.desc
  have hd3 := hF3.desc
  cases ds <;> simp only [descB] at hd <;> try cases hd
  cases dt <;> simp only [descB] at hd2 <;> try cases hd2
  simp only [beq_iff_eq] at hd2
  subst hd2
  cases de <;> simp only [descB] at hd3 <;> try cases hd3
  have := of_decide_eq_true hd3
  subst this
  have hr := run_bytes_of_string (P := C.P) w s t el str hF.und hF2.und hF3.und
  have hge := grownCap_ge w str.size 0 el
  have hsz : (bytesRow str (grownCap w str.size 0 el)).size = grownCap w str.size 0 el := by
    have : str.data.size = str.size := rfl
    simp [bytesRow]; omega
  refine ⟨grownCap w str.size 0 el, bytesRow str (grownCap w str.size 0 el), ?_, by rw [← size_L]; exact hge, grownCap_le_maxLen _ _ _ _ (by rw [size_L]; simp only [maxLen]; omega), by rw [hsz]; omega, fun w' S => ?_⟩
  · rw [hr, size_L]
  · have e1 : (bytesRow str (grownCap w str.size 0 el)).toList.take ((L str).length * 1) = (L str).map fun b => .int .u8 (b.toNat : Int) := by
      simp only [bytesRow, Array.toList_append, Nat.mul_one]
      have : ((L str).map fun b => Value.int .u8 (b.toNat : Int)) = (str.data.map fun b => Value.int .u8 (b.toNat : Int)).toList := by simp [L]
      rw [this]
      exact List.take_left' (by simp [L])
    rw [e1]
    refine ⟨by simp, fun d hd => ?_, fun i j hi hj => ?_⟩
    · obtain ⟨b, _, rfl⟩ := List.mem_map.1 hd; rfl
    · have hi' : i < (L str).length := by simpa using hi
      have hj0 : j = 0 := by omega
      subst hj0
      refine ⟨.int .u8 ((L str)[i].toNat : Int), by simp [hi'], ?_⟩
      simp only [List.getElem_map, byteD, cell]
      exact .v rfl
def isU8T (T : Nat → Option TE) (t : Nat) : Option Nat :=
  match T t with
  | some ⟨.slice el, _, _, _⟩ => match T el with | some ⟨.int .u8, _, _, _⟩ => some el | _ => none
  | _ => none
def isStrT (T : Nat → Option TE) (t : Nat) : Bool := match T t with | some ⟨.str, _, _, _⟩ => true | _ => false
/-- .. as an own row -/
theorem DO_conv_own {C : Cx} {o : Oper} {st : St} {s t el : Nat} {x : Operand} {str : ByteArray} (ho : o.op = .convert s t x) (hd : dstB C o = true) (hS : isStrT C.T s = true) (hT : isU8T C.T t = some el) (hx : evD C st x = .v (.string str)) (hb : (L str).length ≤ 140737488355328) :
    DO C o st (St.put ⟨st.s, st.h ++ [some (.row ((L str).map byteD) el 1)]⟩ o.dst (.own st.h.length (L str).length el 1)) := by
  intro bs a w hr
  have hxv := RV_evD hr x
  rw [hx] at hxv
  unfold isStrT at hS
  split at hS
  · rename_i hS'
    unfold isU8T at hT
    split at hT
    · rename_i hT'
      split at hT
      · rename_i hE'
        simp only [Option.some.injEq] at hT
        rw [hT] at hT' hE'
        obtain ⟨cap, cs, hrun, h1, h2, h3, h4⟩ := run_conv_bytes hr.wr hS' hT' hE' str hb
        have hrun2 : (execOp a.eval o).run C.P w = .ok (.value (.slice (some ⟨w.heap.size, 0, none⟩) (L str).length cap)) (w.drew.alloc (.cells cs el (cs.size, cs.size + 1))) := by
          simp [execOp, ho, Sem.run_bind, (RV_v hxv).1, hrun]
        rw [hrun2]
        obtain ⟨w1, w2⟩ := hr.wr.push (w' := w.drew.alloc (.cells cs el (cs.size, cs.size + 1))) (k := .row ((L str).map byteD) el 1) rfl rfl rfl rfl (fun hE => BR_of_CR (xs := cs.toList.take ((L str).length * 1)) (heap_alloc_new w.drew _) (.inr (Nat.le_refl _)) (by simp) (h4 _ _))
        refine ⟨_, Rel.put (st := ⟨st.s, st.h ++ [some (.row ((L str).map byteD) el 1)]⟩) ⟨hr.defers, hr.size, fun t => RV.ext w2 (hr.slots t), w1⟩ (dstB_spec hd) (RVo (R1.own (by rw [← hr.wr.len]; simp) ?_ h1 h2))⟩
        unfold World.shape?
        have : (w.drew.alloc (.cells cs el (cs.size, cs.size + 1))).heap[w.heap.size]? = some (.cells cs el (cs.size, cs.size + 1)) := heap_alloc_new w.drew _
        rw [this]
        simp [h3]
      · cases hT
    · cases hT
  · cases hS
/-- .. as nobody's slice -/
theorem DQ_conv_im {C : Cx} {o : Oper} {h : List (Option Bk)} {s t el : Nat} {x : Operand} {str : ByteArray} (ho : o.op = .convert s t x) (hS : isStrT C.T s = true) (hT : isU8T C.T t = some el) (hb : (L str).length ≤ 140737488355328) : DQ C o [.v (.string str)] h (.sl (L str) 0 byteD) := by
  intro bs w ρ hw ha
  rw [ho] at ha
  obtain ⟨a', h1, h2⟩ := All2.one (a := x) ha
  cases h1
  unfold isStrT at hS
  split at hS
  · rename_i hS'
    unfold isU8T at hT
    split at hT
    · rename_i hT'
      split at hT
      · rename_i hE'
        simp only [Option.some.injEq] at hT
        rw [hT] at hT' hE'
        obtain ⟨cap, cs, hrun, h1, h2', h3, h4⟩ := run_conv_bytes hw hS' hT' hE' str hb
        have hrun2 : (execOp ρ o).run C.P w = .ok (.value (.slice (some ⟨w.heap.size, 0, none⟩) (L str).length cap)) (w.drew.alloc (.cells cs el (cs.size, cs.size + 1))) := by
          simp [execOp, ho, Sem.run_bind, (RV_v h2).1, hrun]
        rw [hrun2]
        have hnew : (w.drew.alloc (.cells cs el (cs.size, cs.size + 1))).heap[w.heap.size]? = some (.cells cs el (cs.size, cs.size + 1)) := heap_alloc_new w.drew _
        have hold : ∀ b, b < w.heap.size → (w.drew.alloc (.cells cs el (cs.size, cs.size + 1))).heap[b]? = w.heap[b]? := fun b hb => Below.heap_alloc w.drew _ b hb
        have hE : Ext C w bs (w.drew.alloc (.cells cs el (cs.size, cs.size + 1))) bs := ext_im hw (by simp) hold
        refine ⟨⟨hw.len, hw.inj, fun i b hi => ⟨by have := (hw.ok i b hi).1; simp; omega, (hw.ok i b hi).2⟩, fun i k hk => ?_, ?_, hw.gl, hw.g0, hw.tok, hw.mix, hw.s0, fun i b hi => ⟨(hE.ow i b (hw.fix i b hi).1).1, (hE.ow i b (hw.fix i b hi).1).2.trans (hw.fix i b hi).2⟩⟩, hE, ?_⟩
        · rcases hw.blk i k hk with ⟨b, hb, hB⟩ | h0
          · exact .inl ⟨b, hb, hB.ext hE (hold b (hw.ok i b hb).1)⟩
          · exact .inr h0
        · have hf := hw.fr
          exact ⟨hf.os, hf.tape, hf.output, by have := hf.size; simp; omega, fun b hb => (hold b (by have := hw.s0 b hb; have := hf.size; omega)).trans (hf.block b hb)⟩
        · refine R1.im ?_
          by_cases hne : L str = []
          · rw [hne]; exact .sl0
          · obtain ⟨c1, c2, c3⟩ := h4 (w.drew.alloc (.cells cs el (cs.size, cs.size + 1))) (Sf C (w.drew.alloc (.cells cs el (cs.size, cs.size + 1))) bs)
            refine .sl 1 (fun i _ => .int .u8 ((L str).getD i 0).toNat) ⟨.inr hw.fr.size, by simp, fun i hi => by have := (hw.ok i _ hi).1; omega⟩ h1 (fun _ _ => rfl) (fun i j hi hj => ?_) (fun i j hi hj => .v rfl)
            obtain ⟨y, hy, hr⟩ := c3 i j (by simpa using hi) hj
            have hj0 : j = 0 := by omega
            subst hj0
            simp only [List.getElem_map, byteD, cell] at hr
            have hyv : y = .int .u8 ((L str).getD i 0).toNat := by
              cases hr
              simp [List.getD_eq_getElem?_getD, hi]
            subst hyv
            rw [List.getElem?_take] at hy
            split at hy
            · simp only [World.cell?, hnew, Nat.zero_add]
              simpa using hy
            · cases hy
      · cases hT
    · cases hT
  · cases hS
end Go.Proofs.YtpibemolnjmgoaaDoor
