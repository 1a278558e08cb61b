/- Room of own rows: cap, slices up to it, appends of made zeros, copies within rows; functions that are given an own row and hand one back. It speaks of no program of ours. Functions that are given an own row and hand one back; slices compared with nil; overlaps. It speaks of no program of ours. Grants: what is right, what may stand behind another one. (Written by gen_bk.py.) Books are right or not. (Written by gen_bb.py.) -/
import Derived.Test.YtedioenakmgdiaaDoorBPL
import Derived.Lib.AppendZerosOnto
import Derived.Lib.SliceRun
import Derived.Laws.Externs
import Derived.Test.YtedioenakmgdiaaDoorBPD
import Derived.Test.YtedioenakmgdiaaDoorBPE
namespace Go.Proofs.YtedioenakmgdiaaDoor
set_option linter.unusedSimpArgs false
set_option linter.unusedVariables false
set_option maxRecDepth 10000
open Go.RowKit

/-- what room an own row has is known: k cells -/
def CapC (C : Cx) (l T k : Nat) : Prop := ∃ b, C.fx l = some b ∧ C.w0.shape? b = some (T, k)
theorem CapC.own {C : Cx} {h : List (Option Bk)} {bs : List (Option Nat)} {w : World} {x : Value} {l n T sz c : Nat} (hc : CapC C l T (c * sz)) (hsz : 0 < sz) (hw : WR C h bs w) (hx : RV C w bs x (.own l n T sz)) :
    (x = .slice none 0 0 ∧ n = 0) ∨ ∃ b, x = .slice (some ⟨b, 0, none⟩) n c ∧ bs[l]? = some (some b) ∧ w.shape? b = some (T, c * sz) ∧ n ≤ c ∧ c ≤ maxLen := by
  obtain ⟨b0, h1, h2⟩ := hc
  obtain ⟨h3, h4⟩ := hw.fix l b0 h1
  rcases RV_own hx with e | ⟨b, cap, e1, e2, e3, e4, e5⟩
  · exact .inl e
  · rw [e2] at h3
    simp only [Option.some.injEq] at h3
    subst h3
    rw [h4, h2] at e3
    simp only [Option.some.injEq, Prod.mk.injEq, true_and] at e3
    have e6 : c = cap := Nat.eq_of_mul_eq_mul_right hsz e3
    subst e6
    exact .inr ⟨b, e1, e2, h4.trans h2, e4, e5⟩
theorem DQ_cap {C : Cx} {o : Oper} {h : List (Option Bk)} {t l n T sz c el b1 b2 : Nat} {z1 : D} {x : Operand} (ho : o.op = .call { callee := .builtin .cap, args := #[x], argTypes := #[t] }) (hT : C.T t = some ⟨.slice el, b1, b2, z1⟩) (hc : CapC C l T (c * sz)) (hsz : 0 < sz) (hn : 0 < n) :
    DQ C o [.own l n T sz] h (.v (.int .i64 (c : Int))) := DQ_val fun bs w ρ hw ha => by
  rw [ho] at ha
  obtain ⟨a, e, h1⟩ := All2.one (a := x) ha
  cases e
  rcases hc.own hsz hw h1 with ⟨_, e⟩ | ⟨b, e1, _⟩
  · omega
  · obtain ⟨ti, dt, _, hF, _⟩ := tok_of hw.tok hT
    have hd := hF.desc
    cases dt <;> simp only [descB] at hd <;> try cases hd
    simp only [beq_iff_eq] at hd
    subst hd
    refine ⟨.int .i64 (c : Int), ?_, R1.im (.v rfl)⟩
    simp [execOp, ho, resolve, invoke, builtin, Builtin.cap_, Sem.run_bind, hF.underlying w, e1, goInt]
theorem DQ_resl {C : Cx} {o : Oper} {h : List (Option Bk)} {t l n T sz c el b1 b2 m : Nat} {z1 : D} {e : TE} {x u : Operand} {k : IntKind} {i : Int} (ho : o.op = .slice t x none (some u) none) (hT : C.T t = some ⟨.slice el, b1, b2, z1⟩) (hE : C.T el = some e) (hc : CapC C l T (c * sz)) (hsz : 0 < sz) (hn : 0 < n) (hi : i = (m : Int)) (hm : m ≤ c) :
    DQ C o [.own l n T sz, .v (.int k i)] h (.own l m T sz) := DQ_val fun bs w ρ hw ha => by
  subst hi
  rw [ho] at ha
  obtain ⟨a, b, e0, h1, h2⟩ := All2.two (a := x) (b := u) ha
  cases e0
  rcases hc.own hsz hw h1 with ⟨_, e⟩ | ⟨b, e1, e2, e3, e4, e5⟩
  · omega
  · obtain ⟨ti, dt, _, hF, _⟩ := tok_of hw.tok hT
    obtain ⟨ti2, de2, zv2, hF2, _⟩ := tok_of hw.tok hE
    have hd := hF.desc
    cases dt <;> simp only [descB] at hd <;> try cases hd
    simp only [beq_iff_eq] at hd
    subst hd
    have hb : (Instr.sliceBounds true n c none (some (.int k (m : Int))) none).run C.P w = .ok (0, m, c) w := by
      simp [Instr.sliceBounds, Sem.run_bind, run_sliceBound w k (m : Int) c _ (by omega) (by omega)]
    have h2' := (RV_v h2).1
    refine ⟨.slice (some ⟨b, 0, none⟩) m c, ?_, RVo (R1.own e2 e3 hm e5)⟩
    simp [execOp, ho, h2', e1, Instr.sliceAt, Instr.slice, Sem.run_bind, hF.underlying w, hF2.sizeOf w, hb, addr_add]

/-! ### appends of made zeros -/
theorem CR.take {w : World} {S : Nat → Prop} {sz : Nat} {xs : List Value} {L : List D} (h : CR w S sz xs L) (k : Nat) : CR w S sz (xs.take (k * sz)) (L.take k) := by
  refine ⟨?_, fun d hd => h.2.1 d (List.mem_of_mem_take hd), fun i j hi hj => ?_⟩
  · rw [List.length_take, List.length_take, h.1]
    rcases Nat.le_total k L.length with hk | hk
    · rw [Nat.min_eq_left hk, Nat.min_eq_left (Nat.mul_le_mul_right _ hk)]
    · rw [Nat.min_eq_right hk, Nat.min_eq_right (Nat.mul_le_mul_right _ hk)]
  · rw [List.length_take] at hi
    obtain ⟨x, hx, hr⟩ := h.2.2 i j (by omega) hj
    refine ⟨x, ?_, by rw [List.getElem_take]; exact hr⟩
    have h1 : (i + 1) * sz ≤ k * sz := Nat.mul_le_mul_right _ (by omega)
    rw [Nat.add_mul] at h1
    rw [List.getElem?_take, if_pos (by omega)]
    exact hx
theorem CR.drop {w : World} {S : Nat → Prop} {sz : Nat} {xs : List Value} {L : List D} (h : CR w S sz xs L) (k : Nat) : CR w S sz (xs.drop (k * sz)) (L.drop k) := by
  refine ⟨by rw [List.length_drop, List.length_drop, h.1, Nat.sub_mul], fun d hd => h.2.1 d (List.mem_of_mem_drop hd), fun i j hi hj => ?_⟩
  rw [List.length_drop] at hi
  obtain ⟨x, hx, hr⟩ := h.2.2 (k + i) j (by omega) hj
  refine ⟨x, ?_, by rw [List.getElem_drop]; exact hr⟩
  rw [List.getElem?_drop, ← hx]
  congr 1
  rw [Nat.add_mul]
  omega
theorem CR_zeros {w : World} {S : Nat → Prop} {sz k : Nat} {zv : Value} {z : D} (hz : zB zv z = true) (hsz : nc z = sz) (h0 : 0 < sz) : CR w S sz (Builtin.zeroCells zv.cells k).toList (List.replicate k z) := by
  obtain ⟨z1, z2⟩ := zB_spec hz
  have hs : zv.cells.size = sz := z1.trans hsz
  refine ⟨by rw [Array.length_toList, size_zeroCells, hs, List.length_replicate], fun d hd => by rw [List.eq_of_mem_replicate hd]; exact hsz, fun i j hi hj => ?_⟩
  rw [List.length_replicate] at hi
  have hlt : i * sz + j < k * sz := by
    have : (i + 1) * sz ≤ k * sz := Nat.mul_le_mul_right _ (by omega)
    rw [Nat.add_mul] at this
    omega
  have hj' : j < zv.cells.size := by omega
  have hmod : (i * sz + j) % sz = j := by rw [Nat.mul_comm, Nat.mul_add_mod, Nat.mod_eq_of_lt hj]
  refine ⟨zv.cells[j], ?_, ?_⟩
  · unfold Builtin.zeroCells
    rw [hs]
    simp [hlt, hmod, hj']
  · rw [List.getElem_replicate, (z2 j hj').1]
    exact .v (z2 j hj').2
theorem DO_appz {C : Cx} {o : Oper} {st : St} {s x : Operand} {t u el sz l i k c b1 b2 : Nat} {z1 : D} {e eu : TE} {kq : IntKind} {L : List D} (ho : o.op = .call { callee := .builtin .append, args := #[s, x], argTypes := #[t, u] }) (hd : dstB C o = true) (hT : C.T t = some ⟨.slice el, b1, b2, z1⟩) (hE : C.T el = some e)
    (hU : C.T u = some eu) (huk : (match eu.d with | .int _ => true | _ => false) = true) (hsz : e.sz = sz) (hs0 : 0 < sz) (hby : 0 < e.bytes) (hcap : CapC C l el (c * sz)) (hs : evD C st s = .own l i el sz) (hx : evD C st x = .v (.int kq (k : Int))) (hl : st.h[l]? = some (some (.row L el sz)))
    (hi : i ≤ L.length) (h0 : 0 < k) (hg : c < i + k) (hb : (i + k) * e.bytes ≤ 140737488355328) :
    DO C o st (St.put ⟨st.s, st.h ++ [some (.row (L.take i ++ List.replicate k e.z) el sz)]⟩ o.dst (.own st.h.length (i + k) el sz)) := by
  intro bs a w hr
  have hw := hr.wr
  obtain ⟨ti, dt, _, hF, _⟩ := tok_of hw.tok hT
  obtain ⟨ti2, de, zv, hF2, hz, hzB⟩ := tok_of hw.tok hE
  obtain ⟨ti3, du, _, hF3, _⟩ := tok_of hw.tok hU
  have hd1 := hF.desc
  cases dt <;> simp only [descB] at hd1 <;> try cases hd1
  simp only [beq_iff_eq] at hd1
  subst hd1
  obtain ⟨kn, hkn⟩ : ∃ kn, du = .int kn := by
    have h3 := hF3.desc
    cases hq : eu.d <;> rw [hq] at huk h3 <;> simp only at huk <;> try cases huk
    cases du <;> simp only [descB] at h3 <;> first | (cases h3; done) | exact ⟨_, rfl⟩
  subst hkn
  have his : ti2.size = sz := by rw [hF2.size, hsz]
  have hib : ti2.bytes = e.bytes := hF2.bytes
  have hsv := RV_evD hr s
  rw [hs] at hsv
  have hxv := RV_evD hr x
  rw [hx] at hxv
  have hxe := (RV_v hxv).1
  obtain ⟨base, sCap, olds, e1, e2, e3, e4⟩ : ∃ base sCap olds, a.eval s = .slice base i sCap ∧ sCap < i + k ∧ (Builtin.firstCells ti2.size i (.slice base i sCap)).run C.P w.drew = .ok olds.toArray w.drew ∧ CR w (Sf C w bs) sz olds (L.take i) := by
    rcases hcap.own hs0 hw hsv with ⟨q1, rfl⟩ | ⟨b, q1, q2, q3, q4, q5⟩
    · exact ⟨none, 0, [], q1, by omega, by simp [Builtin.firstCells], by simp, by simp, fun i j hi => by simp at hi⟩
    · obtain ⟨cs, fz, g1, g2, g3, g4⟩ := CR_of_BR (hw.at hl q2)
      have g5 := g4.take i
      have hlen := g5.1.trans (show (L.take i).length * sz = i * sz by rw [List.length_take, Nat.min_eq_left hi])
      refine ⟨some ⟨b, 0, none⟩, c, _, q1, hg, run_firstCells_some w.drew ti2.size i ⟨b, 0, none⟩ i c _ (by rw [his]; exact hlen) (fun j v hv => ?_), g5⟩
      change w.cell? ((⟨b, 0, none⟩ : Addr).add j) = some v
      rw [addr_add, Nat.zero_add]
      rw [List.getElem?_take] at hv
      split at hv
      · rw [List.getElem?_take] at hv
        split at hv
        · simpa [World.cell?, g1] using hv
        · cases hv
      · cases hv
  have hsm := size_ok (n := i) (m := k) (cap := 0) hby hb
  have hkb : k * e.bytes ≤ 140737488355328 := Nat.le_trans (Nat.mul_le_mul_right _ (Nat.le_add_left k i)) hb
  have hrun0 := Go.Lib.run_append_grow_zeros w t u o.type _ ti2 zv kq kn hF.und hF3.und hF2.info hz base i sCap olds e3 k h0 (by omega) e2 (by omega) (by rw [hib]; omega) (growslice_fits (by omega) (by rw [hib]; exact hb))
  have hrun : (execOp a.eval o).run C.P w = .ok (.value (.slice (some ⟨w.heap.size, 0, none⟩) (i + k) (grownCap w (i + k) sCap el))) (w.drew.alloc (.cells (olds.toArray ++ Builtin.zeroCells zv.cells k ++ Builtin.zeroCells zv.cells (grownCap w (i + k) sCap el - (i + k))) el)) := by
    simp [execOp, ho, resolve, invoke, builtin, Sem.run_bind, e1, hxe, hrun0]
  rw [hrun]
  have hzs : nc e.z = sz := (tok_nc hw.tok hE).trans hsz
  have hzc : zv.cells.size = sz := by rw [(zB_spec hzB).1, hzs]
  have hge := grownCap_ge w (i + k) sCap el
  have hlt : (L.take i).length = i := by rw [List.length_take]; omega
  have hll : (L.take i ++ List.replicate k e.z).length = i + k := by rw [List.length_append, hlt, List.length_replicate]
  obtain ⟨w1, w2⟩ := hw.more (w' := w.drew.alloc (.cells (olds.toArray ++ Builtin.zeroCells zv.cells k ++ Builtin.zeroCells zv.cells (grownCap w (i + k) sCap el - (i + k))) el)) (ob := some w.heap.size) (k := .row (L.take i ++ List.replicate k e.z) el sz) (by simp) rfl rfl rfl (fun b hb => Below.heap_alloc w.drew _ b hb) (by simp) (fun hE => .inl ⟨_, rfl, by
    refine BR_of_CR (xs := olds ++ (Builtin.zeroCells zv.cells k).toList) (heap_alloc_new w.drew _) (unfroR_zero _ _) ?_ ((e4.append (CR_zeros hzB hzs hs0)).mono hE.im)
    simp only [Array.toList_append]
    rw [← (e4.append (CR_zeros (w := w) (S := Sf C w bs) (k := k) hzB hzs hs0)).1]
    exact List.take_left⟩)
  refine ⟨_, Rel.put (st := ⟨st.s, st.h ++ [some (.row (L.take i ++ List.replicate k e.z) el sz)]⟩) ⟨hr.defers, hr.size, fun t => RV.ext w2 (hr.slots t), w1⟩ (dstB_spec hd) (RVo (R1.own ?_ ?_ hge (grownCap_le_maxLen _ _ _ _ (by simp only [maxLen]; omega))))⟩
  · rw [← hw.len]; simp
  · have ho1 := e4.1
    rw [hlt] at ho1
    rw [shape_new, Array.size_append, Array.size_append, List.size_toArray, size_zeroCells, size_zeroCells, hzc, ho1, ← Nat.add_mul, ← Nat.add_mul]
    congr 3
    omega

/-! ### copies into an own row -/
theorem copy_core {C : Cx} {o : Oper} {st : St} {x y : Operand} {t u el l p n1 m sz b1 b2 : Nat} {z1 : D} {e : TE} {L es : List D} (ho : o.op = .call { callee := .builtin .copy, args := #[x, y], argTypes := #[t, u] }) (hd : dstB C o = true) (hT : C.T t = some ⟨.slice el, b1, b2, z1⟩) (hE : C.T el = some e) (hsz : e.sz = sz)
    (hx : evD C st x = .osl l (p * sz) n1) (hl : st.h[l]? = some (some (.row L el sz))) (hn : 0 < n1) (hp : p ≤ L.length) (hm : es.length = m)
    (room : ∀ bs a w, Rel C st bs a w → ∀ b, bs[l]? = some (some b) → ∃ k, w.shape? b = some (el, k) ∧ (p + m) * sz ≤ k)
    (src : ∀ bs a w, Rel C st bs a w → ∃ sl news, (∀ w', (Builtin.lenOf (a.eval y)).run C.P w' = .ok sl w') ∧ min sl n1 = m ∧ (Builtin.firstCells sz m (a.eval y)).run C.P w = .ok news.toArray w ∧ (∀ v ∈ news, v.oneCell' = true) ∧ CR w (Sf C w bs) sz news es) :
    DO C o st (St.put { st with h := st.h.set l (some (.row (L.take p ++ es ++ L.drop (p + m)) el sz)) } o.dst (.v (.int .i64 (m : Int)))) := by
  intro bs a w hr
  have hxv := RV_evD hr x
  rw [hx] at hxv
  obtain ⟨aa, cap, hxe, hcap, hor⟩ := RV_osl hxv
  rcases hor with h0 | ⟨b, rfl, hb⟩
  · omega
  obtain ⟨ti, dt, _, hF, _⟩ := tok_of hr.wr.tok hT
  obtain ⟨ti2, de, _, hF2, _⟩ := tok_of hr.wr.tok hE
  have hdd := hF.desc
  cases dt <;> simp only [descB] at hdd <;> try cases hdd
  simp only [beq_iff_eq] at hdd
  subst hdd
  obtain ⟨cs, fz, g1, g2, g3, g4⟩ := CR_of_BR (hr.wr.at hl hb)
  obtain ⟨k, hk1, hk2⟩ := room bs a w hr b hb
  have hks : cs.size = k := by
    unfold World.shape? at hk1
    rw [g1] at hk1
    simpa using hk1
  subst hks
  obtain ⟨sl, news, q1, q2, q3, q4, q5⟩ := src bs a w hr
  have hnl : news.length = m * sz := by rw [q5.1, hm]
  have hroom : p * sz + news.length ≤ cs.size := by rw [hnl, ← Nat.add_mul]; exact hk2
  have hrunS := run_storeCells_un C.P b _ fz news (p * sz) 0 cs w g1 (by omega) g2.1 q4
  simp only [Nat.add_zero] at hrunS
  have hrun : (execOp a.eval o).run C.P w = .ok (.value (.int .i64 (m : Int))) (w.setRow b (cs.toList.take (p * sz) ++ news ++ cs.toList.drop (p * sz + news.length)).toArray) := by
    have hc : (Builtin.copy_ #[t, u] o.type #[.slice (some ⟨b, p * sz, none⟩) n1 cap, a.eval y]).run C.P w = .ok (.int .i64 (m : Int)) (w.setRow b (cs.toList.take (p * sz) ++ news ++ cs.toList.drop (p * sz + news.length)).toArray) := by
      unfold Builtin.copy_
      have e1 : Nat.min sl n1 = m := q2
      simp only [List.getElem?_toArray, List.getElem?_cons_zero, List.getElem?_cons_succ, Sem.run_bind, hF.underlying w, hF2.sizeOf w, hsz, q1, Result.andThen_ok, e1, q3, hrunS, goInt, Sem.run_pure]
    simp [execOp, ho, resolve, invoke, builtin, Sem.run_bind, hxe, hc]
  rw [hrun]
  have hszN := seg_size cs news (p * sz) hroom
  have hBR : Ext C w bs (w.setRow b (cs.toList.take (p * sz) ++ news ++ cs.toList.drop (p * sz + news.length)).toArray) bs → BR C (w.setRow b (cs.toList.take (p * sz) ++ news ++ cs.toList.drop (p * sz + news.length)).toArray) bs b (.row (L.take p ++ es ++ L.drop (p + m)) el sz) := by
    intro hX
    have hcr := ((g4.take p).append q5).append (g4.drop (p + m))
    refine BR_of_CR (setRow_heap _ _ _ _ _ _ g1) (by rw [hszN]; exact g2) ?_ (hcr.mono hX.im)
    have hA : ((cs.toList.take (L.length * sz)).take (p * sz)) = cs.toList.take (p * sz) := by
      rw [List.take_take, Nat.min_eq_left (Nat.mul_le_mul_right _ hp)]
    have hlA : (cs.toList.take (p * sz) ++ news).length = (p + m) * sz := by
      rw [List.length_append, List.length_take, Array.length_toList, hnl, Nat.add_mul]
      have : p * sz ≤ cs.size := by omega
      omega
    rw [hA, List.take_append, List.take_of_length_le (by
      rw [hlA]
      refine Nat.mul_le_mul_right _ ?_
      simp only [List.length_append, List.length_take, List.length_drop]
      omega)]
    congr 1
    rw [hlA, hnl, ← Nat.add_mul, List.drop_take]
    congr 1
    rw [← Nat.sub_mul, ← Nat.sub_mul]
    congr 1
    simp only [List.length_append, List.length_take, List.length_drop]
    omega
  obtain ⟨w1, w2⟩ := hr.wr.setRow (k := .row (L.take p ++ es ++ L.drop (p + m)) el sz) hb g1 hszN hBR
  exact ⟨bs, Rel.put (st := { st with h := st.h.set l (some (.row (L.take p ++ es ++ L.drop (p + m)) el sz)) }) ⟨hr.defers, hr.size, fun t => RV.ext w2 (hr.slots t), w1⟩ (dstB_spec hd) (R1.im (.v rfl))⟩
/-- a slot tells how far the row may be written -/
theorem room_of {C : Cx} {st : St} {l n' el sz q : Nat} (s : Nat) (hs : st.s s = .own l n' el sz) (hq : q ≤ n') (h0 : 0 < q) : ∀ bs a w, Rel C st bs a w → ∀ b, bs[l]? = some (some b) → ∃ k, w.shape? b = some (el, k) ∧ q * sz ≤ k := fun bs a w hr b hb => by
  have h1 : RV C w bs _ _ := hr.slots s
  rw [hs] at h1
  rcases RV_own h1 with ⟨_, e⟩ | ⟨b', cap, e1, e2, e3, e4, e5⟩
  · omega
  · rw [hb] at e2
    simp only [Option.some.injEq] at e2
    subst e2
    exact ⟨_, e3, Nat.mul_le_mul_right _ (by omega)⟩
theorem DO_copyR {C : Cx} {o : Oper} {st : St} {x y : Operand} {t u el l p n1 n' m sz b1 b2 : Nat} {z1 : D} {e : TE} {L es : List D} {P0 : Prop} (s : Nat) (hs : st.s s = .own l n' el sz) (ho : o.op = .call { callee := .builtin .copy, args := #[x, y], argTypes := #[t, u] }) (hd : dstB C o = true) (hT : C.T t = some ⟨.slice el, b1, b2, z1⟩) (hE : C.T el = some e) (hsz : e.sz = sz)
    (hx : evD C st x = .osl l (p * sz) n1) (hl : st.h[l]? = some (some (.row L el sz))) (hp : p ≤ L.length) (hy : srcD st.h (evD C st y) = some (P0, es)) (hP : P0) (hpure : ∀ d ∈ es, pureD d = true ∧ nc d = sz) (hm : min es.length n1 = m) (hm0 : 0 < m) (hn : p + m ≤ n') :
    DO C o st (St.put { st with h := st.h.set l (some (.row (L.take p ++ es.take m ++ L.drop (p + m)) el sz)) } o.dst (.v (.int .i64 (m : Int)))) :=
  copy_core ho hd hT hE hsz hx hl (by omega) hp (by rw [List.length_take]; omega) (room_of s hs hn (by omega)) fun bs a w hr => by
    obtain ⟨news, hsrc, hcr⟩ := src_spec hr.wr (RV_evD hr y) hy hP hpure
    exact ⟨es.length, news.take (m * sz), hsrc.len, hm, hsrc.pre m (by omega) w rfl, fun v hv => hsrc.one v (List.mem_of_mem_take hv), hcr.take m⟩
/-- .. out of the row itself -/
theorem DO_copyS {C : Cx} {o : Oper} {st : St} {x y : Operand} {t u el l p q n1 n2 n' m sz b1 b2 : Nat} {z1 : D} {e : TE} {L : List D} (s : Nat) (hs : st.s s = .own l n' el sz) (ho : o.op = .call { callee := .builtin .copy, args := #[x, y], argTypes := #[t, u] }) (hd : dstB C o = true) (hT : C.T t = some ⟨.slice el, b1, b2, z1⟩) (hE : C.T el = some e) (hsz : e.sz = sz)
    (hx : evD C st x = .osl l (p * sz) n1) (hl : st.h[l]? = some (some (.row L el sz))) (hp : p ≤ L.length) (hy : evD C st y = .osl l (q * sz) n2) (hq : q + m ≤ L.length) (hm : min n2 n1 = m) (hm0 : 0 < m) (hn : p + m ≤ n') :
    DO C o st (St.put { st with h := st.h.set l (some (.row (L.take p ++ (L.drop q).take m ++ L.drop (p + m)) el sz)) } o.dst (.v (.int .i64 (m : Int)))) :=
  copy_core ho hd hT hE hsz hx hl (by omega) hp (by rw [List.length_take, List.length_drop]; omega) (room_of s hs hn (by omega)) fun bs a w hr => by
    have hyv := RV_evD hr y
    rw [hy] at hyv
    obtain ⟨aa, cap, hye, hcap, hor⟩ := RV_osl hyv
    rcases hor with h0 | ⟨b, rfl, hb⟩
    · omega
    obtain ⟨cs, fz, g1, g2, g3, g4⟩ := CR_of_BR (hr.wr.at hl hb)
    have hcr := (g4.drop q).take m
    have hlen := hcr.1.trans (show ((L.drop q).take m).length * sz = m * sz by rw [List.length_take, List.length_drop, Nat.min_eq_left (by omega)])
    refine ⟨n2, _, fun w' => by rw [hye]; simp [Builtin.lenOf], hm, ?_, fun v hv => ?_, hcr⟩
    · rw [hye]
      refine run_firstCells_some w sz m ⟨b, q * sz, none⟩ n2 cap _ hlen fun j v hv => ?_
      rw [addr_add]
      rw [List.getElem?_take] at hv
      split at hv
      · rw [List.getElem?_drop, List.getElem?_take] at hv
        split at hv
        · simpa [World.cell?, g1] using hv
        · cases hv
      · cases hv
    · obtain ⟨k, hk, rfl⟩ := List.getElem_of_mem hv
      have h0 : 0 < sz := by
        rcases Nat.eq_zero_or_pos sz with h0 | h0
        · rw [hlen, h0] at hk; simp at hk
        · exact h0
      have hk' : k < m * sz := by rw [hlen] at hk; exact hk
      have hdm : (k / sz) * sz + k % sz = k := by have := Nat.div_add_mod k sz; rw [Nat.mul_comm] at this; exact this
      obtain ⟨x', hx1, hx2⟩ := hcr.2.2 (k / sz) (k % sz) (by rw [List.length_take, List.length_drop]; have := (Nat.div_lt_iff_lt_mul h0).2 hk'; omega) (Nat.mod_lt _ h0)
      rw [hdm, List.getElem?_eq_getElem hk] at hx1
      simp only [Option.some.injEq] at hx1
      rw [hx1]
      exact isC_one hx2.isC
end Go.Proofs.YtedioenakmgdiaaDoor

namespace Go.Proofs.YtedioenakmgdiaaDoor
set_option linter.unusedSimpArgs false
set_option linter.unusedVariables false
set_option maxRecDepth 10000
open Go.RowKit

/-! ### overlaps -/
theorem run_overlaps_own {P : Program} (w : World) (ps rs : Array TypeId) (tS e : TypeId) (hps : ps[0]? = some tS) (ht : P.underlying tS = some (.slice e)) (size : Nat) (hz : ∀ w, (Go.sizeOf e).run P w = .ok size w)
    (a b : Addr) (la ca lb cb : Nat) (hne : a.block ≠ b.block) (tA tB : TypeId) (kA kB : Nat) (hsa : w.shape? a.block = some (tA, kA)) (hkA : kA ≠ 0) (hsb : w.shape? b.block = some (tB, kB)) (hfb : w.frozen? b = false) (hfe : w.frozen? { block := b.block, off := kB } = false) :
    (Extern.SlicesOverlaps.overlaps ps rs #[.slice (some a) la ca, .slice (some b) lb cb]).run P w = .ok (.bool false) w := by
  have hnb : (a.block != b.block) = true := by simpa using hne
  have hnb' : (a.block == b.block) = false := by simpa using hne
  change Sem.run P (α := Value) (do
    let some t := ps[0]? | stuck "slices.overlaps: no parameter types"
    let .slice elem ← underlying t | stuck "slices.overlaps: slice type expected"
    let size ← sizeOf elem
    match (some a : Option Addr), (some b : Option Addr) with
    | some a, some b =>
      if la = 0 ∨ lb = 0 ∨ size = 0 then pure (Value.bool false)
      else if a.block != b.block && (← frozen a) && (← frozen b) then unsupported .addressObserved
      else do
        if a.block != b.block then do
          noView a; noView b
          if ← mayBeOne a b then return Value.bool ((← choose (.extern "sameAddr.stringBytes" 2)) == 1)
        pure (Value.bool (a.block == b.block && a.off < b.off + lb * size && b.off < a.off + la * size))
    | _, _ => pure (Value.bool false)) w = _
  rw [hps]
  by_cases h0 : la = 0 ∨ lb = 0 ∨ size = 0
  · simp [run_underlying ht, hz, h0]
  · cases kA with
    | zero => exact absurd rfl hkA
    | succ kA =>
      cases hfa : w.frozen? a with
      | true => simp [run_underlying ht, hz, h0, hnb, hnb', frozen, noView, viewAt, mayBeOne, stringish, shape, Sem.run, hsa, hsb, hfa, hfb, hfe]
      | false =>
        cases hfx : w.frozen? { block := a.block, off := kA + 1 } <;> simp [run_underlying ht, hz, h0, hnb, hnb', frozen, noView, viewAt, mayBeOne, stringish, shape, Sem.run, hsa, hsb, hfa, hfb, hfe, hfx]
theorem DQ_overlaps {C : Cx} {o : Oper} {h : List (Option Bk)} {g : Operand} {args : Array Operand} {ts : Array TypeId} {f : FuncId} {fn : Func} {t el b1 b2 k off n T s : Nat} {z1 : D} {e : TE} {α : Type} {l : List α} {z : α} {ee : α → D} {L : List D}
    (ho : o.op = .call { callee := .value g, args := args, argTypes := ts }) (hf : C.P.funcs[f]? = some fn) (hname : (fn.name == "runtime.NumGoroutine") = false) (hb : fn.body.isNone = true) (hn : Extern.findNext fn = none) {ps rs : Array TypeId} (he : Extern.find fn = some (Extern.SlicesOverlaps.overlaps ps rs)) (hps : ps[0]? = some t)
    (hT : C.T t = some ⟨.slice el, b1, b2, z1⟩) (hE : C.T el = some e) (hl : l ≠ []) (hpos : ∀ x, 0 < nc (ee x)) (hk : h[k]? = some (some (.row L T s))) (hs : s ≠ 1) (hn0 : 0 < n) :
    DQ C o [.fn f .nil, .sl l z ee, .osl k off n] h (.v (.bool false)) := DQ_val fun bs w ρ hw ha => by
  rw [ho] at ha
  have h0 : (Op.call { callee := .value g, args := args, argTypes := ts }).operands.toList = g :: args.toList := by simp [Op.operands, Call.operands]
  rw [h0] at ha
  cases ha with
  | cons hg ht =>
    obtain ⟨c, hc1, hc2, hc3⟩ := RV_fn hg
    obtain ⟨x, y, hxy⟩ : ∃ x y, args.toList = [x, y] := by
      cases hq : args.toList with
      | nil => rw [hq] at ht; cases ht
      | cons x r => cases r with
        | nil => rw [hq] at ht; cases ht with | cons _ h' => cases h'
        | cons y r2 => cases r2 with
          | nil => exact ⟨x, y, rfl⟩
          | cons _ _ => rw [hq] at ht; cases ht with | cons _ h' => cases h' with | cons _ h'' => cases h''
    rw [hxy] at ht
    obtain ⟨_, _, e0, h1, h2⟩ := All2.two (a := x) (b := y) ht
    cases e0
    have hargs : args = #[x, y] := by rw [← Array.toArray_toList (xs := args), hxy]
    have hc0 : c = #[] := by apply Array.eq_empty_of_size_eq_zero; simpa [nc] using hc2
    obtain ⟨ti, dt, _, hF, _⟩ := tok_of hw.tok hT
    obtain ⟨ti2, de, _, hF2, _⟩ := tok_of hw.tok hE
    have hd := hF.desc
    cases dt <;> simp only [descB] at hd <;> try cases hd
    simp only [beq_iff_eq] at hd
    subst hd
    obtain ⟨bb, cap2, hy, hcap2, hor⟩ := RV_osl h2
    rcases hor with e0 | ⟨b2', rfl, hb2⟩
    · omega
    obtain ⟨aa, capa, hx, hcapa, hor⟩ := RV_sl h1
    rcases hor with e0 | ⟨ba, offa, sz, xs, rfl, hba, hsza, hxa, hca⟩
    · exact absurd e0 hl
    have hlen : 0 < l.length := List.length_pos_iff.2 hl
    have hsz0 : 0 < sz := by rw [← hsza 0 hlen]; exact hpos _
    have hcell := hxa 0 0 hlen hsz0
    obtain ⟨cs, T', fz, g1, g2⟩ : ∃ cs T' fz, w.heap[ba]? = some (.cells cs T' fz) ∧ cs.size ≠ 0 := by
      unfold World.cell? at hcell
      cases hq : w.heap[ba]? with
      | none => simp [hq] at hcell
      | some ob =>
        cases ob with
        | cells cs T' fz =>
          refine ⟨cs, T', fz, rfl, fun e => ?_⟩
          simp [hq] at hcell
          obtain ⟨h3, _⟩ := Array.getElem?_eq_some_iff.1 hcell
          omega
        | _ => simp [hq] at hcell
    obtain ⟨cs2, fz2, k1, k2, k3, k4, k5⟩ := hw.at hk hb2
    have hfz2 : fz2 = (0, 0) := k3.2 hs
    subst hfz2
    have hsa : w.shape? ba = some (T', cs.size) := by unfold World.shape?; rw [g1]
    have hsb : w.shape? b2' = some (T, cs2.size) := by unfold World.shape?; rw [k1]
    have hne : ba ≠ b2' := fun e => hba.2.2 k (by rw [e]; exact hb2)
    have hfb : ∀ o', w.frozen? ⟨b2', o', none⟩ = false := fun o' => by unfold World.frozen?; simp [k1]
    have hrun := run_overlaps_own w ps rs t _ hps hF.und _ (fun w => hF2.sizeOf w) ⟨ba, offa, none⟩ ⟨b2', off, none⟩ l.length capa n cap2 hne T' T cs.size cs2.size hsa g2 hsb (hfb _) (hfb _)
    refine ⟨.bool false, ?_, R1.im (.v rfl)⟩
    have hcf := run_callFunc_extern hf hname hb hn he #[.slice (some ⟨ba, offa, none⟩) l.length capa, .slice (some ⟨b2', off, none⟩) n cap2] w
    rw [hrun] at hcf
    simp only [execOp, ho, resolve, Sem.run_bind, hc1]
    simp [Deferred.ofValue, invoke, hargs, hx, hy, hc0, hcf]

/-! ### contexts in which the room is known -/
section
variable {E : Env} {n : Nat} {w0 : World} {A0 : Nat → Prop} {b0 T k : Nat} {r : Option Nat} {Q : Exit → PUnit → St → Prop} {g : PUnit} {l : List (Nat × D)} {h : List (Option Bk)}
theorem capC_of (hsh : w0.shape? b0 = some (T, k)) {w1 : World} {A1 S1 : Nat → Prop} {f : Nat → Option Nat} {marks : List Nat} (ok : FnOk [0] w0 A0 [some b0] w1 A1 S1 f marks) : CapC (mkG E n w1 A1 S1 (fxP [0] f)) 0 T k := by
  obtain ⟨h1, h2⟩ := ok.pn 0 b0 rfl rfl
  exact ⟨b0, by show fxP [0] f 0 = some b0; unfold fxP; exact h1, h2.trans hsh⟩
theorem DX_regC {id : Nat} {ops : List Oper} (hsh : w0.shape? b0 = some (T, k)) (live : List Nat)
    (kk : ∀ (w1 : World) (A S0 : Nat → Prop) (f : Nat → Option Nat), CapC (mkG E n w1 A S0 (fxP [0] f)) 0 T k → DR (mkG E n w1 A S0 (fxP [0] f)) ops.toArray (KL live (Q .normal g)) ops ⟨look l, h⟩) :
    DX (MdFn E n [0] w0 A0 [some b0]) r (.region id ops.toArray false) Q g (mk l h) := fun bs a W hr => by
  obtain ⟨w1, A1, S1, f, marks, a0, rfl, hR, ok⟩ := hr
  refine wpIn_mono (DV_reg (r := r) (df := marks.map markD) (Q := fun e st' => e = .normal ∧ KL live (Q .normal g) st') (DR_mono (fun st h => ⟨rfl, h⟩) (kk w1 A1 S1 f (capC_of hsh ok))) bs a0 W hR) fun e a' w' ⟨st', bs', a1, e1, h1, h2, h3⟩ => ?_
  subst e1; subst h2
  obtain ⟨bs2, h4⟩ := Weak.pick live bs' a1 w' h1
  exact ⟨g, _, bs2, ⟨w1, A1, S1, f, marks, a1, rfl, h4, ok⟩, h3 _ rfl⟩
end

/-! ### functions that are given own blocks, and may hand back others in their place -/
def PHn (E : Env) (f : FuncId) (args : List D) (H : List (Option Bk)) (r : D) (H' : List (Option Bk)) : Prop :=
  ∀ (n : Nat) (w : World) (A : Nat → Prop) (bs : List (Option Nat)) (vs : Array Value), (∀ b, A b → b < w.heap.size ∧ ∀ i : Nat, bs[i]? ≠ some (some b)) →
    WR (hctx E n [] w A bs) H bs w → All2 (RV (hctx E n [] w A bs) w bs) vs.toList args →
    Calls E.P f vs w fun e w' => ∃ x bs', e = .returned x ∧ WR (hctx E n [] w A bs) H' bs' w' ∧ RV (hctx E n [] w A bs) w' bs' x r
theorem WR.fxc {E : Env} {n m : Nat} {w0 : World} {A S0 : Nat → Prop} {fx fx' : Nat → Option Nat} {h : List (Option Bk)} {bs : List (Option Nat)} {w : World} (hw : WR (mkG E n w0 A S0 fx) h bs w) (hf : ∀ (i b : Nat), fx' i = some b → bs[i]? = some (some b) ∧ w.shape? b = w0.shape? b) : WR (mkG E m w0 A S0 fx') h bs w :=
  ⟨hw.len, hw.inj, hw.ok, fun i k hk => by
    rcases hw.blk i k hk with ⟨b, hb, hB⟩ | h0
    · exact .inl ⟨b, hb, BR.mv (C := mkG E n w0 A S0 fx) (C' := mkG E m w0 A S0 fx') (fun b h => ⟨h, rfl⟩) (fun l b h => ⟨h, rfl⟩) rfl hB⟩
    · exact .inr h0, hw.fr, hw.gl, hw.g0, hw.tok, hw.mix, hw.s0, hf⟩
theorem RV.fxc {E : Env} {n m : Nat} {w0 : World} {A S0 : Nat → Prop} {fx fx' : Nat → Option Nat} {bs : List (Option Nat)} {w : World} {x : Value} {d : D} (h : RV (mkG E n w0 A S0 fx) w bs x d) : RV (mkG E m w0 A S0 fx') w bs x d :=
  RG.mono (fun _ _ h => R1.mv (C := mkG E n w0 A S0 fx) (C' := mkG E m w0 A S0 fx') (fun b h => ⟨h, rfl⟩) (fun l b h => ⟨h, rfl⟩) h) h
theorem fx0 {f : Nat → Option Nat} {bs : List (Option Nat)} {w w0 : World} : ∀ (i b : Nat), fxP [] f i = some b → bs[i]? = some (some b) ∧ w.shape? b = w0.shape? b := fun i b hi => by simp [fxP] at hi
/-- with some of the blocks kept in place -/
theorem PHn_pins {E : Env} {f : FuncId} {fn : Func} {c : Code} {n : Nat} {rs : List ResultVar} {args : List D} {H H' : List (Option Bk)} {l : List (Nat × D)} {r : D} (pins : List Nat) (hf : E.P.funcs[f]? = some fn) (hb : fn.body = some c) (hN : fn.ntmps = n) (hR : fn.results = rs.toArray) (hn : Nat.ble args.length n = true) (hl : argsL 0 args = l)
    {m : Nat} {w : World} {A : Nat → Prop} {bs : List (Option Nat)} {vs : Array Value} (hw : WR (hctx E m [] w A bs) H bs w) (hv : All2 (RV (hctx E m [] w A bs) w bs) vs.toList args)
    (hbody : DX (MdFn E n pins w A bs) none c (postX E n pins rs (fun h r0 => FinH E n [] h r0 r H')) ⟨⟩ (mk l H)) :
    Calls E.P f vs w fun e w' => ∃ x bs', e = .returned x ∧ WR (hctx E m [] w A bs) H' bs' w' ∧ RV (hctx E m [] w A bs) w' bs' x r := by
  subst hN
  subst hl
  have hn : args.length ≤ fn.ntmps := by simpa using hn
  obtain ⟨hlen, _⟩ := hv.get
  rw [Array.length_toList] at hlen
  have h0 : Rel (hctx E fn.ntmps pins w A bs) (mk (argsL 0 args) H) bs { tmps := vs ++ Array.replicate (fn.ntmps - vs.size) undef, defers := [] } w :=
    ⟨rfl, by simp [mkG]; omega, fun t => args_slots (All2.imp (K := fun a b => a = b) (fun a b c h1 h2 => by subst h2; exact h1.fxc) hv (All2.reflP fun _ _ => rfl)) t, hw.fxc fun i b hi => by
      unfold fxP at hi
      split at hi
      · refine ⟨?_, rfl⟩
        have hi : (bs[i]?).join = some b := hi
        cases hq : bs[i]? with
        | none => rw [hq] at hi; simp at hi
        | some o => rw [hq] at hi; simp only [Option.join_some] at hi; rw [hi]
      · cases hi⟩
  rw [show rs = fn.results.toList by rw [hR]] at hbody
  refine (fn_core hf hb h0 hbody).mono fun e w' ⟨x, h, r0, bs', e1, h1, h2, h3⟩ => ?_
  have h1' : WR (hctx E fn.ntmps [] w A bs) h bs' w' := h1.fxc fx0
  have h2' : RV (hctx E fn.ntmps [] w A bs) w' bs' x r0 := h2.fxc
  obtain ⟨bs2, h4, h5⟩ := h3 _ _ _ _ _ _ _ h1' h2'
  exact ⟨x, bs2, e1, WR.fxc (m := m) h4 fx0, RV.fxc h5⟩
theorem PHn_at {E : Env} {f : FuncId} {fn : Func} {c : Code} {n : Nat} {rs : List ResultVar} {args : List D} {H H' : List (Option Bk)} {l : List (Nat × D)} {r : D} (hf : E.P.funcs[f]? = some fn) (hb : fn.body = some c) (hN : fn.ntmps = n) (hR : fn.results = rs.toArray) (hn : Nat.ble args.length n = true) (hl : argsL 0 args = l)
    (hbody : ∀ (w0 : World) (A : Nat → Prop) (bs0 : List (Option Nat)), DX (MdFn E n [] w0 A bs0) none c (postX E n [] rs (fun h r0 => FinH E n [] h r0 r H')) ⟨⟩ (mk l H)) : PHn E f args H r H' :=
  fun m w A bs vs _ hw hv => PHn_pins [] hf hb hN hR hn hl hw hv (hbody w A bs)
/-- .. the room of the row is known -/
theorem PHn_atC {E : Env} {f : FuncId} {fn : Func} {c : Code} {n T sz k : Nat} {rs : List ResultVar} {args : List D} {L : List D} {H' : List (Option Bk)} {l : List (Nat × D)} {r : D} (hf : E.P.funcs[f]? = some fn) (hb : fn.body = some c) (hN : fn.ntmps = n) (hR : fn.results = rs.toArray) (hn : Nat.ble (args.length + 1) n = true) (hl : argsL 0 (.own 0 k T sz :: args) = l) (h0 : 0 < k)
    (hbody : ∀ (w0 : World) (A : Nat → Prop) (b0 cap : Nat), w0.shape? b0 = some (T, cap * sz) → k ≤ cap → cap ≤ maxLen → DX (MdFn E n [0] w0 A [some b0]) none c (postX E n [0] rs (fun h r0 => FinH E n [] h r0 r H')) ⟨⟩ (mk l [some (.row L T sz)])) : PHn E f (.own 0 k T sz :: args) [some (.row L T sz)] r H' :=
  fun m w A bs vs _ hw hv => by
    cases vs with
    | mk vl =>
      cases hv with
      | cons h1 h2 =>
        rcases RV_own h1 with ⟨_, e⟩ | ⟨b, cap, e1, e2, e3, e4, e5⟩
        · omega
        · have hbs : bs = [some b] := by
            have hlen := hw.len
            cases bs with
            | nil => simp at e2
            | cons x t => cases t with
              | nil => simp at e2; rw [e2]
              | cons _ _ => simp at hlen
          subst hbs
          exact PHn_pins [0] hf hb hN hR (by simpa using hn) hl hw (.cons h1 h2) (hbody w A b cap e3 e4 e5)

/-- a call of such a function, on an own row -/
theorem DO_callR {E : Env} {C : Cx} (hE : EnvC E C) {o : Oper} {st : St} {f : FuncId} {g : Operand} {args : Array Operand} {ts : Array TypeId} {l n n' T sz : Nat} {L L' : List D} {xs : List D} (ho : o.op = .call { callee := .value g, args := args, argTypes := ts }) (hd : dstB C o = true) (hf : fnB C.P f = true) (hfx : C.fx l = none)
    (hl : st.h[l]? = some (some (.row L T sz))) (hx : argsD C st o = .fn f .nil :: .own l n T sz :: xs) (hp : xs.all pureD = true) (hL : L' ≠ []) (hc : PHn E f (.own 0 n T sz :: xs) [some (.row L T sz)] (.own 0 n' T sz) [some (.row L' T sz)]) :
    DO C o st (St.put ⟨fun t => kil l (st.s t), (kilH l st.h).set l (some (.row L' T sz))⟩ o.dst (.own l n' T sz)) := by
  intro bs a w hr
  have ha := All2.map (R := RV C w bs) (f := a.eval) (g := evD C st) o.op.operands.toList (fun x _ => RV_evD hr x)
  have hargs : o.op.operands.toList.map (evD C st) = .fn f .nil :: .own l n T sz :: xs := hx
  rw [hargs] at ha
  obtain ⟨vs, hrun, hv⟩ := call_args (C := C) (cs := []) (by simp) hf ho ha
  rw [List.append_nil] at hv
  have hw := hr.wr
  have hG := Gok_of hE hw
  have hg : ∀ b, b < E.gN → Sf C w bs b := by rw [hE.gN]; exact Sf_g hw
  have hlh : l < st.h.length := (List.getElem?_eq_some_iff.1 hl).1
  have hll : l < bs.length := by rw [hw.len]; exact hlh
  obtain ⟨ob, hob⟩ : ∃ ob, bs[l]? = some ob := ⟨bs[l], by simp [hll]⟩
  have hnin : ∀ b, Sf C w bs b → ∀ i : Nat, ([ob] : List (Option Nat))[i]? ≠ some (some b) := fun b hb i hi => by
    cases i with
    | zero => simp at hi; exact hb.2.2 l (by rw [hob, hi])
    | succ i => simp at hi
  have hS : ∀ b, Sf C w bs b → Sf (hctx E 0 [] w (Sf C w bs) [ob]) w [ob] b := fun b hb => ⟨.inl hb, hb.2.1, hnin b hb⟩
  have hown : ∀ (i b : Nat), ([ob] : List (Option Nat))[i]? = some (some b) → i = 0 ∧ bs[l]? = some (some b) := fun i b hi => by
    cases i with
    | zero => simp at hi; exact ⟨rfl, by rw [hob, hi]⟩
    | succ i => simp at hi
  have hwr : WR (hctx E 0 [] w (Sf C w bs) [ob]) [some (.row L T sz)] [ob] w := by
    refine ⟨rfl, fun i j b hi hj => (hown i b hi).1.trans (hown j b hj).1.symm, fun i b hi => ⟨(hw.ok l b (hown i b hi).2).1, fun hs => hs.2 i hi⟩, fun i k hk => ?_, ⟨rfl, rfl, rfl, Nat.le_refl _, fun _ _ => rfl⟩, fun b hb => ⟨⟨(hg b hb).2.1, hnin b (hg b hb)⟩, hg b hb⟩, hG.gl, hG.tok, hG.mix, fun b hb => hb.1, fun i b hi => by simp [mkG, fxP] at hi⟩
    cases i with
    | succ i => simp at hk
    | zero =>
      simp at hk
      subst hk
      rcases hw.blk l _ hl with ⟨b, hb, cs, fz, g1, g2, g3, g4, g5⟩ | ⟨T', sz', e1, e2⟩
      · rw [hob] at hb
        simp only [Option.some.injEq] at hb
        subst hb
        exact .inl ⟨b, rfl, cs, fz, g1, g2, g3, g4, fun i j hi hj => let ⟨x, hx, hr⟩ := g5 i j hi hj; ⟨x, hx, hr.mono fun b hb => ⟨hS b hb, rfl⟩⟩⟩
      · rw [hob] at e2
        simp only [Option.some.injEq] at e2
        subst e2
        exact .inr ⟨T', sz', e1, rfl⟩
  have hargs2 : All2 (RV (hctx E 0 [] w (Sf C w bs) [ob]) w [ob]) vs.toList (.own 0 n T sz :: xs) := by
    generalize vs.toList = vl at hv
    cases hv with
    | cons h1 h2 =>
      refine .cons ?_ (All2.imp (K := fun d e => d = e ∧ pureD d = true) (fun a b c h1 h2 => by
        obtain ⟨rfl, h3⟩ := h2
        exact RG.imp h3 (fun _ _ hp' h => .im ((h.pure hp').mono fun b hb => ⟨hS b hb, rfl⟩)) h1) h2 (All2.reflP fun x hx' => ⟨rfl, List.all_eq_true.1 hp x hx'⟩))
      rcases RV_own h1 with ⟨rfl, rfl⟩ | ⟨b, cap, rfl, e2, e3, e4, e5⟩
      · exact R1.own0
      · rw [hob] at e2
        simp only [Option.some.injEq] at e2
        subst e2
        exact R1.own rfl e3 e4 e5
  have hcall := hc 0 w (Sf C w bs) [ob] vs (fun b hb => ⟨hb.2.1, hnin b hb⟩) hwr hargs2
  rw [hE.P] at hcall
  rw [hrun]
  refine hcall.mono fun e w' ⟨x, bs', he, h2, hxr⟩ => ⟨x, he, ?_⟩
  obtain ⟨b', hb', hB⟩ : ∃ b' : Nat, bs'[0]? = some (some b') ∧ BR (hctx E 0 [] w (Sf C w bs) [ob]) w' bs' b' (.row L' T sz) := by
    rcases h2.blk 0 _ rfl with h | ⟨_, _, e1, _⟩
    · exact h
    · cases e1; exact absurd rfl hL
  obtain ⟨hblt, hbno⟩ := h2.ok 0 b' hb'
  have hfr := h2.fr
  have hsz : w.heap.size ≤ w'.heap.size := hfr.size
  have hnew : bs[l]? = some (some b') ∨ w.heap.size ≤ b' := by
    rcases Nat.lt_or_ge b' w.heap.size with hlt | hge
    · refine .inl ?_
      have : ∃ i : Nat, ([ob] : List (Option Nat))[i]? = some (some b') := Classical.byContradiction fun hne => hbno ⟨hlt, fun i hi => hne ⟨i, hi⟩⟩
      obtain ⟨i, hi⟩ := this
      exact (hown i b' hi).2
    · exact .inr hge
  have hold : ∀ b, b < w.heap.size → bs[l]? ≠ some (some b) → w'.heap[b]? = w.heap[b]? := fun b hb hne => hfr.block b ⟨hb, fun i hi => hne (hown i b hi).2⟩
  obtain ⟨w1, w2⟩ := hw.renew (k := .row L' T sz) hfx hlh hsz hfr.os hfr.tape hfr.output hold hblt hnew fun hE2 => by
    obtain ⟨cs, fz, g1, g2, g3, g4, g5⟩ := hB
    refine ⟨cs, fz, g1, g2, g3, g4, fun i j hi hj => ?_⟩
    obtain ⟨y, hy, hry⟩ := g5 i j hi hj
    refine ⟨y, hy, hry.mono fun b hb => ⟨?_, rfl⟩⟩
    obtain ⟨q1, q2, q3⟩ := hb
    have q1' : Sf C w bs b ∨ w.heap.size ≤ b := q1
    refine ⟨?_, q2, fun i hi => ?_⟩
    · rcases q1' with h | h
      · exact h.1
      · exact .inr (Nat.le_trans hw.fr.size h)
    · rw [List.getElem?_set] at hi
      split at hi
      · simp [hll] at hi
        subst hi
        exact q3 0 hb'
      · rcases q1' with h | h
        · exact h.2.2 i hi
        · have := (hw.ok i b hi).1; omega
  refine ⟨bs.set l (some b'), Rel.put (st := ⟨fun t => Proofs.YtedioenakmgdiaaDoor.kil l (st.s t), (kilH l st.h).set l (some (.row L' T sz))⟩) ⟨hr.defers, hr.size, fun t => RV.kilE w2 (hr.slots t), w1⟩ (dstB_spec hd) ?_⟩
  rcases RV_own hxr with ⟨rfl, rfl⟩ | ⟨b, cap, rfl, e2, e3, e4, e5⟩
  · exact RVo R1.own0
  · rw [hb'] at e2
    simp only [Option.some.injEq] at e2
    subst e2
    exact RVo (R1.own (by simp [hll]) e3 e4 e5)

/-! ### a slice compared with nil: either -/
theorem DL_nilq {E : Env} {n : Nat} {pins : List Nat} {γ : Type 1} {M : Md E n pins γ} {r : Option Nat} {Q : Exit → γ → St → Prop} {g : γ} {ops : Array Oper} {o : Oper} {rest : List Oper} {s : Nat → D} {h : List (Option Bk)} {t ty u el b1 b2 : Nat} {z1 : D} {x y : Operand} {α : Type} {l : List α} {z : α} {e : α → D}
    (hg : o.guard = none) (hd : o.dst = some t) (ht' : Nat.blt t n = true) (ho : o.op = .binOp .eql ty x y u) (hT : E.T ty = some ⟨.slice el, b1, b2, z1⟩)
    (hx : ∀ (w0 : World) (A S0 : Nat → Prop) (f : Nat → Option Nat), argsD (mkG E n w0 A S0 (fxP pins f)) ⟨s, h⟩ o = [.sl l z e, .v (.slice none 0 0)])
    (k : ∀ b : Bool, (b = true → l = []) → DL M r ops Q rest g ⟨upd s t (.v (.bool b)), h⟩) : DL M r ops Q (o :: rest) g ⟨s, h⟩ := fun bs a W hr => by
  obtain ⟨w0, A, S0, f, a0, df, rfl, hR, hback⟩ := M.lift hr
  have hxx : (o.op.operands.toList.map (evD (mkG E n w0 A S0 (fxP pins f)) ⟨s, h⟩)) = [.sl l z e, .v (.slice none 0 0)] := hx w0 A S0 f
  have hop : o.op.operands.toList = [x, y] := by rw [ho]; rfl
  rw [hop] at hxx
  simp only [List.map_cons, List.map_nil, List.cons.injEq, and_true] at hxx
  have hxv := RV_evD hR x
  have hyv := RV_evD hR y
  rw [hxx.1] at hxv
  rw [hxx.2] at hyv
  have hy := (RV_v hyv).1
  obtain ⟨ba, cap, hxe, hcap, hor⟩ := RV_sl hxv
  obtain ⟨ti, dt, _, hF, _⟩ := tok_of hR.wr.tok hT
  have hdd := hF.desc
  cases dt <;> simp only [descB] at hdd <;> try cases hdd
  simp only [beq_iff_eq] at hdd
  subst hdd
  have hu : E.P.underlying ty = some (.slice el) := hF.und
  unfold wpListIn
  have hw' : Region.wanted o (yielded ops (dfs a0 df).tmps) = true := by simp [Region.wanted, hg]
  rw [if_pos hw']
  refine Up.wpIn (a := dfs a0 df) (post := fun v w' => v = .bool ba.isNone ∧ w' = W) ?_ fun v w' ⟨e1, e2⟩ => ?_
  · have hrun : (execOp a0.eval o).run E.P W = .ok (.value (.bool ba.isNone)) W := by
      simp [execOp, ho, hxe, hy, Sem.run_bind, Go.Lib.run_eql_slice_nil W ty _ ba l.length cap 0 0 hu, eqGuard]
    show Up E.P ((execOp a0.eval o).run E.P W) _
    rw [hrun]
    exact ⟨rfl, rfl⟩
  · subst e1 e2
    rw [hd, dfs_put]
    refine k ba.isNone (fun hb => ?_) bs _ w' (hback _ _ _ _ (Rel.put (dst := some t) (st := ⟨s, h⟩) hR (fun t' ht2 => by cases ht2; show t < n; simpa using ht') (R1.im (.v rfl))))
    rcases hor with h0 | ⟨b, hb2⟩
    · exact h0
    · cases ba with
      | none => simp at hb2
      | some _ => simp at hb
theorem FinH_nilo {E : Env} {n : Nat} (T sz : Nat) : FinH E n [] [] (.v (.slice none 0 0)) (.own 0 0 T sz) [some (.row [] T sz)] := fun w0 A S0 f w bs x h1 h2 => by
  have hx := (RV_v h2).1
  subst hx
  obtain ⟨w1, w2⟩ := h1.more (w' := w) (ob := none) (k := .row [] T sz) (Nat.le_refl _) rfl rfl rfl (fun _ _ => rfl) (by simp) (fun _ => .inr ⟨_, _, rfl, rfl⟩)
  exact ⟨_, w1, RVo R1.own0⟩
end Go.Proofs.YtedioenakmgdiaaDoor

namespace Go.Proofs.YtedioenakmgdiaaDoor
set_option linter.unusedSimpArgs false
set_option linter.unusedVariables false
set_option maxRecDepth 10000
open Go.RowKit
/-- a grant -/
structure Gr where
  sv : Int
  fr : Int
  un : Int
  hi : Int
  rt : List UInt8
instance : DecidableEq Gr := fun a b => if h : a.sv = b.sv ∧ a.fr = b.fr ∧ a.un = b.un ∧ a.hi = b.hi ∧ a.rt = b.rt then isTrue (by cases a; cases b; simp_all) else isFalse (fun e => h (by subst e; simp))
def gz : Gr := ⟨0, 0, 0, 0, []⟩
def grD (g : Gr) : D := .cons (iD g.sv) (.cons (iD g.fr) (.cons (iD g.un) (.cons (iD g.hi) (.cons (hashD g.rt) .nil))))
theorem grD_eq (g : Gr) : grD g = .cons (.v (.int .i64 g.sv)) (.cons (.v (.int .i64 g.fr)) (.cons (.v (.int .i64 g.un)) (.cons (.v (.int .i64 g.hi)) (.cons (.arr .u8 32 (fun i => ((g.rt.getD i 0).toNat : Int))) .nil)))) := rfl
def bkD (b : List Gr) : D := .sl b gz grD
theorem bkD_eq (b : List Gr) : bkD b = .sl b gz grD := rfl
/-- what is right -/
def rightB (g : Gr) : Bool := decide (0 ≤ g.sv) && decide (g.sv ≤ 63) && decide (0 ≤ g.fr) && decide (g.fr ≤ g.un) && decide (g.un ≤ 1099511627776) && decide (0 ≤ g.hi) && decide (g.hi ≤ 7)
def apartB (a b : Gr) : Bool := decide (a.sv < b.sv) || (decide (a.sv = b.sv) && decide (a.un < b.fr))

set_option maxHeartbeats 4000000 in
theorem right_c (g : Gr) : PC (envOf Tryd.prog) 80 [grD g] (bD (rightB g)) := by
  by_cases c0 : g.sv < 0
  · skip
    have hdx : decide (g.sv < 0) = true := decide_eq_true c0
    rw [show rightB g = false by unfold rightB; simp; omega]
    have hX := and_true; refine PC_atX Tryd.func80 rfl Tryd.ntmps80 Tryd.results80 rfl (by simp only [argsL, Nat.reduceAdd, u32D, u8D, iD, bD, strD, u32_xor, u32_or, u32_and, u32_add, u32_not, u32_shr, u32_shl, u8_u32, u32_u8]; exact rfl) ?_; intro w0 A
    have hX := And.intro grD_eq (And.intro hdx (and_true))
    (repeat refine DX_seq ?_); refine rgx [1] ?_
    (repeat refine DX_seq ?_); refine DX_block ?_
    (repeat refine DX_seq ?_); refine rggx [1, 3] ?_
    (repeat refine DX_seq ?_); refine iftx ?_
    (repeat refine DX_seq ?_); refine rgx [2] ?_
    (repeat refine DX_seq ?_); refine DX_ret ?_; refine retx ?_; (try dsimp only [outV, unlist])
    exact Fin_pure rfl
  · skip
    by_cases c1 : (63 : Int) < g.sv
    · skip
      have hdx : decide (g.sv < 0) = false ∧ decide ((63 : Int) < g.sv) = true := ⟨decide_eq_false c0, decide_eq_true c1⟩
      rw [show rightB g = false by unfold rightB; simp; omega]
      have hX := and_true; refine PC_atX Tryd.func80 rfl Tryd.ntmps80 Tryd.results80 rfl (by simp only [argsL, Nat.reduceAdd, u32D, u8D, iD, bD, strD, u32_xor, u32_or, u32_and, u32_add, u32_not, u32_shr, u32_shl, u8_u32, u32_u8]; exact rfl) ?_; intro w0 A
      have hX := And.intro grD_eq (And.intro hdx (and_true))
      (repeat refine DX_seq ?_); refine rgx [1] ?_
      (repeat refine DX_seq ?_); refine DX_block ?_
      (repeat refine DX_seq ?_); refine rggx [1, 3] ?_
      (repeat refine DX_seq ?_); refine iftx ?_
      (repeat refine DX_seq ?_); refine rgx [2] ?_
      (repeat refine DX_seq ?_); refine DX_ret ?_; refine retx ?_; (try dsimp only [outV, unlist])
      exact Fin_pure rfl
    · skip
      by_cases c2 : g.hi < 0
      · skip
        have hdx : decide (g.sv < 0) = false ∧ decide ((63 : Int) < g.sv) = false ∧ decide (g.hi < 0) = true := ⟨decide_eq_false c0, decide_eq_false c1, decide_eq_true c2⟩
        rw [show rightB g = false by unfold rightB; simp; omega]
        have hX := and_true; refine PC_atX Tryd.func80 rfl Tryd.ntmps80 Tryd.results80 rfl (by simp only [argsL, Nat.reduceAdd, u32D, u8D, iD, bD, strD, u32_xor, u32_or, u32_and, u32_add, u32_not, u32_shr, u32_shl, u8_u32, u32_u8]; exact rfl) ?_; intro w0 A
        have hX := And.intro grD_eq (And.intro hdx (and_true))
        (repeat refine DX_seq ?_); refine rgx [1] ?_
        (repeat refine DX_seq ?_); refine DX_block ?_
        (repeat refine DX_seq ?_); refine rggx [1, 3] ?_
        (repeat refine DX_seq ?_); refine iftx ?_
        (repeat refine DX_seq ?_); refine rgx [2] ?_
        (repeat refine DX_seq ?_); refine DX_ret ?_; refine retx ?_; (try dsimp only [outV, unlist])
        exact Fin_pure rfl
      · skip
        by_cases c3 : (7 : Int) < g.hi
        · skip
          have hdx : decide (g.sv < 0) = false ∧ decide ((63 : Int) < g.sv) = false ∧ decide (g.hi < 0) = false ∧ decide ((7 : Int) < g.hi) = true := ⟨decide_eq_false c0, decide_eq_false c1, decide_eq_false c2, decide_eq_true c3⟩
          rw [show rightB g = false by unfold rightB; simp; omega]
          have hX := and_true; refine PC_atX Tryd.func80 rfl Tryd.ntmps80 Tryd.results80 rfl (by simp only [argsL, Nat.reduceAdd, u32D, u8D, iD, bD, strD, u32_xor, u32_or, u32_and, u32_add, u32_not, u32_shr, u32_shl, u8_u32, u32_u8]; exact rfl) ?_; intro w0 A
          have hX := And.intro grD_eq (And.intro hdx (and_true))
          (repeat refine DX_seq ?_); refine rgx [1] ?_
          (repeat refine DX_seq ?_); refine DX_block ?_
          (repeat refine DX_seq ?_); refine rggx [1, 3] ?_
          (repeat refine DX_seq ?_); refine iftx ?_
          (repeat refine DX_seq ?_); refine rgx [2] ?_
          (repeat refine DX_seq ?_); refine DX_ret ?_; refine retx ?_; (try dsimp only [outV, unlist])
          exact Fin_pure rfl
        · skip
          by_cases c4 : 0 ≤ g.fr
          · skip
            by_cases c5 : g.fr ≤ g.un
            · skip
              by_cases c6 : g.un ≤ 1099511627776
              · skip
                have hdx : decide (g.sv < 0) = false ∧ decide ((63 : Int) < g.sv) = false ∧ decide (g.hi < 0) = false ∧ decide ((7 : Int) < g.hi) = false ∧ decide (0 ≤ g.fr) = true ∧ decide (g.fr ≤ g.un) = true ∧ decide (g.un ≤ 1099511627776) = true := ⟨decide_eq_false c0, decide_eq_false c1, decide_eq_false c2, decide_eq_false c3, decide_eq_true c4, decide_eq_true c5, decide_eq_true c6⟩
                rw [show rightB g = true by unfold rightB; simp; omega]
                have hX := and_true; refine PC_atX Tryd.func80 rfl Tryd.ntmps80 Tryd.results80 rfl (by simp only [argsL, Nat.reduceAdd, u32D, u8D, iD, bD, strD, u32_xor, u32_or, u32_and, u32_add, u32_not, u32_shr, u32_shl, u8_u32, u32_u8]; exact rfl) ?_; intro w0 A
                have hX := And.intro grD_eq (And.intro hdx (and_true))
                (repeat refine DX_seq ?_); refine rgx [1] ?_
                (repeat refine DX_seq ?_); refine DX_block ?_
                (repeat refine DX_seq ?_); refine rggx [1, 3] ?_
                (repeat refine DX_seq ?_); refine iffx ?_
                (repeat refine DX_seq ?_); refine DX_skip ?_
                (repeat refine DX_seq ?_); refine rggx [2] ?_
                (repeat refine DX_seq ?_); refine DX_ret ?_; refine retx ?_; (try dsimp only [outV, unlist])
                exact Fin_pure rfl
              · skip
                have hdx : decide (g.sv < 0) = false ∧ decide ((63 : Int) < g.sv) = false ∧ decide (g.hi < 0) = false ∧ decide ((7 : Int) < g.hi) = false ∧ decide (0 ≤ g.fr) = true ∧ decide (g.fr ≤ g.un) = true ∧ decide (g.un ≤ 1099511627776) = false := ⟨decide_eq_false c0, decide_eq_false c1, decide_eq_false c2, decide_eq_false c3, decide_eq_true c4, decide_eq_true c5, decide_eq_false c6⟩
                rw [show rightB g = false by unfold rightB; simp; omega]
                have hX := and_true; refine PC_atX Tryd.func80 rfl Tryd.ntmps80 Tryd.results80 rfl (by simp only [argsL, Nat.reduceAdd, u32D, u8D, iD, bD, strD, u32_xor, u32_or, u32_and, u32_add, u32_not, u32_shr, u32_shl, u8_u32, u32_u8]; exact rfl) ?_; intro w0 A
                have hX := And.intro grD_eq (And.intro hdx (and_true))
                (repeat refine DX_seq ?_); refine rgx [1] ?_
                (repeat refine DX_seq ?_); refine DX_block ?_
                (repeat refine DX_seq ?_); refine rggx [1, 3] ?_
                (repeat refine DX_seq ?_); refine iffx ?_
                (repeat refine DX_seq ?_); refine DX_skip ?_
                (repeat refine DX_seq ?_); refine rggx [2] ?_
                (repeat refine DX_seq ?_); refine DX_ret ?_; refine retx ?_; (try dsimp only [outV, unlist])
                exact Fin_pure rfl
            · skip
              have hdx : decide (g.sv < 0) = false ∧ decide ((63 : Int) < g.sv) = false ∧ decide (g.hi < 0) = false ∧ decide ((7 : Int) < g.hi) = false ∧ decide (0 ≤ g.fr) = true ∧ decide (g.fr ≤ g.un) = false := ⟨decide_eq_false c0, decide_eq_false c1, decide_eq_false c2, decide_eq_false c3, decide_eq_true c4, decide_eq_false c5⟩
              rw [show rightB g = false by unfold rightB; simp; omega]
              have hX := and_true; refine PC_atX Tryd.func80 rfl Tryd.ntmps80 Tryd.results80 rfl (by simp only [argsL, Nat.reduceAdd, u32D, u8D, iD, bD, strD, u32_xor, u32_or, u32_and, u32_add, u32_not, u32_shr, u32_shl, u8_u32, u32_u8]; exact rfl) ?_; intro w0 A
              have hX := And.intro grD_eq (And.intro hdx (and_true))
              (repeat refine DX_seq ?_); refine rgx [1] ?_
              (repeat refine DX_seq ?_); refine DX_block ?_
              (repeat refine DX_seq ?_); refine rggx [1, 3] ?_
              (repeat refine DX_seq ?_); refine iffx ?_
              (repeat refine DX_seq ?_); refine DX_skip ?_
              (repeat refine DX_seq ?_); refine rggx [2] ?_
              (repeat refine DX_seq ?_); refine DX_ret ?_; refine retx ?_; (try dsimp only [outV, unlist])
              exact Fin_pure rfl
          · skip
            have hdx : decide (g.sv < 0) = false ∧ decide ((63 : Int) < g.sv) = false ∧ decide (g.hi < 0) = false ∧ decide ((7 : Int) < g.hi) = false ∧ decide (0 ≤ g.fr) = false := ⟨decide_eq_false c0, decide_eq_false c1, decide_eq_false c2, decide_eq_false c3, decide_eq_false c4⟩
            rw [show rightB g = false by unfold rightB; simp; omega]
            have hX := and_true; refine PC_atX Tryd.func80 rfl Tryd.ntmps80 Tryd.results80 rfl (by simp only [argsL, Nat.reduceAdd, u32D, u8D, iD, bD, strD, u32_xor, u32_or, u32_and, u32_add, u32_not, u32_shr, u32_shl, u8_u32, u32_u8]; exact rfl) ?_; intro w0 A
            have hX := And.intro grD_eq (And.intro hdx (and_true))
            (repeat refine DX_seq ?_); refine rgx [1] ?_
            (repeat refine DX_seq ?_); refine DX_block ?_
            (repeat refine DX_seq ?_); refine rggx [1, 3] ?_
            (repeat refine DX_seq ?_); refine iffx ?_
            (repeat refine DX_seq ?_); refine DX_skip ?_
            (repeat refine DX_seq ?_); refine rggx [2] ?_
            (repeat refine DX_seq ?_); refine DX_ret ?_; refine retx ?_; (try dsimp only [outV, unlist])
            exact Fin_pure rfl
set_option maxHeartbeats 4000000 in
theorem refright_c (g : Gr) : PC (envOf Tryd.prog) 85 [grD g] (bD (rightB g)) := by
  by_cases c0 : 0 ≤ g.sv
  · skip
    by_cases c1 : g.sv ≤ 63
    · skip
      by_cases c2 : 0 ≤ g.fr
      · skip
        by_cases c3 : g.fr ≤ g.un
        · skip
          by_cases c4 : g.un ≤ 1099511627776
          · skip
            by_cases c5 : 0 ≤ g.hi
            · skip
              by_cases c6 : g.hi ≤ 7
              · skip
                have hdx : decide (0 ≤ g.sv) = true ∧ decide (g.sv ≤ 63) = true ∧ decide (0 ≤ g.fr) = true ∧ decide (g.fr ≤ g.un) = true ∧ decide (g.un ≤ 1099511627776) = true ∧ decide (0 ≤ g.hi) = true ∧ decide (g.hi ≤ 7) = true := ⟨decide_eq_true c0, decide_eq_true c1, decide_eq_true c2, decide_eq_true c3, decide_eq_true c4, decide_eq_true c5, decide_eq_true c6⟩
                rw [show rightB g = true by unfold rightB; simp; omega]
                have hX := and_true; refine PC_atX Tryd.func85 rfl Tryd.ntmps85 Tryd.results85 rfl (by simp only [argsL, Nat.reduceAdd, u32D, u8D, iD, bD, strD, u32_xor, u32_or, u32_and, u32_add, u32_not, u32_shr, u32_shl, u8_u32, u32_u8]; exact rfl) ?_; intro w0 A
                have hX := And.intro grD_eq (And.intro hdx (and_true))
                (repeat refine DX_seq ?_); refine rgx [1] ?_
                (repeat refine DX_seq ?_); refine rggx [2] ?_
                (repeat refine DX_seq ?_); refine DX_ret ?_; refine retx ?_; (try dsimp only [outV, unlist])
                exact Fin_pure rfl
              · skip
                have hdx : decide (0 ≤ g.sv) = true ∧ decide (g.sv ≤ 63) = true ∧ decide (0 ≤ g.fr) = true ∧ decide (g.fr ≤ g.un) = true ∧ decide (g.un ≤ 1099511627776) = true ∧ decide (0 ≤ g.hi) = true ∧ decide (g.hi ≤ 7) = false := ⟨decide_eq_true c0, decide_eq_true c1, decide_eq_true c2, decide_eq_true c3, decide_eq_true c4, decide_eq_true c5, decide_eq_false c6⟩
                rw [show rightB g = false by unfold rightB; simp; omega]
                have hX := and_true; refine PC_atX Tryd.func85 rfl Tryd.ntmps85 Tryd.results85 rfl (by simp only [argsL, Nat.reduceAdd, u32D, u8D, iD, bD, strD, u32_xor, u32_or, u32_and, u32_add, u32_not, u32_shr, u32_shl, u8_u32, u32_u8]; exact rfl) ?_; intro w0 A
                have hX := And.intro grD_eq (And.intro hdx (and_true))
                (repeat refine DX_seq ?_); refine rgx [1] ?_
                (repeat refine DX_seq ?_); refine rggx [2] ?_
                (repeat refine DX_seq ?_); refine DX_ret ?_; refine retx ?_; (try dsimp only [outV, unlist])
                exact Fin_pure rfl
            · skip
              have hdx : decide (0 ≤ g.sv) = true ∧ decide (g.sv ≤ 63) = true ∧ decide (0 ≤ g.fr) = true ∧ decide (g.fr ≤ g.un) = true ∧ decide (g.un ≤ 1099511627776) = true ∧ decide (0 ≤ g.hi) = false := ⟨decide_eq_true c0, decide_eq_true c1, decide_eq_true c2, decide_eq_true c3, decide_eq_true c4, decide_eq_false c5⟩
              rw [show rightB g = false by unfold rightB; simp; omega]
              have hX := and_true; refine PC_atX Tryd.func85 rfl Tryd.ntmps85 Tryd.results85 rfl (by simp only [argsL, Nat.reduceAdd, u32D, u8D, iD, bD, strD, u32_xor, u32_or, u32_and, u32_add, u32_not, u32_shr, u32_shl, u8_u32, u32_u8]; exact rfl) ?_; intro w0 A
              have hX := And.intro grD_eq (And.intro hdx (and_true))
              (repeat refine DX_seq ?_); refine rgx [1] ?_
              (repeat refine DX_seq ?_); refine rggx [2] ?_
              (repeat refine DX_seq ?_); refine DX_ret ?_; refine retx ?_; (try dsimp only [outV, unlist])
              exact Fin_pure rfl
          · skip
            have hdx : decide (0 ≤ g.sv) = true ∧ decide (g.sv ≤ 63) = true ∧ decide (0 ≤ g.fr) = true ∧ decide (g.fr ≤ g.un) = true ∧ decide (g.un ≤ 1099511627776) = false := ⟨decide_eq_true c0, decide_eq_true c1, decide_eq_true c2, decide_eq_true c3, decide_eq_false c4⟩
            rw [show rightB g = false by unfold rightB; simp; omega]
            have hX := and_true; refine PC_atX Tryd.func85 rfl Tryd.ntmps85 Tryd.results85 rfl (by simp only [argsL, Nat.reduceAdd, u32D, u8D, iD, bD, strD, u32_xor, u32_or, u32_and, u32_add, u32_not, u32_shr, u32_shl, u8_u32, u32_u8]; exact rfl) ?_; intro w0 A
            have hX := And.intro grD_eq (And.intro hdx (and_true))
            (repeat refine DX_seq ?_); refine rgx [1] ?_
            (repeat refine DX_seq ?_); refine rggx [2] ?_
            (repeat refine DX_seq ?_); refine DX_ret ?_; refine retx ?_; (try dsimp only [outV, unlist])
            exact Fin_pure rfl
        · skip
          have hdx : decide (0 ≤ g.sv) = true ∧ decide (g.sv ≤ 63) = true ∧ decide (0 ≤ g.fr) = true ∧ decide (g.fr ≤ g.un) = false := ⟨decide_eq_true c0, decide_eq_true c1, decide_eq_true c2, decide_eq_false c3⟩
          rw [show rightB g = false by unfold rightB; simp; omega]
          have hX := and_true; refine PC_atX Tryd.func85 rfl Tryd.ntmps85 Tryd.results85 rfl (by simp only [argsL, Nat.reduceAdd, u32D, u8D, iD, bD, strD, u32_xor, u32_or, u32_and, u32_add, u32_not, u32_shr, u32_shl, u8_u32, u32_u8]; exact rfl) ?_; intro w0 A
          have hX := And.intro grD_eq (And.intro hdx (and_true))
          (repeat refine DX_seq ?_); refine rgx [1] ?_
          (repeat refine DX_seq ?_); refine rggx [2] ?_
          (repeat refine DX_seq ?_); refine DX_ret ?_; refine retx ?_; (try dsimp only [outV, unlist])
          exact Fin_pure rfl
      · skip
        have hdx : decide (0 ≤ g.sv) = true ∧ decide (g.sv ≤ 63) = true ∧ decide (0 ≤ g.fr) = false := ⟨decide_eq_true c0, decide_eq_true c1, decide_eq_false c2⟩
        rw [show rightB g = false by unfold rightB; simp; omega]
        have hX := and_true; refine PC_atX Tryd.func85 rfl Tryd.ntmps85 Tryd.results85 rfl (by simp only [argsL, Nat.reduceAdd, u32D, u8D, iD, bD, strD, u32_xor, u32_or, u32_and, u32_add, u32_not, u32_shr, u32_shl, u8_u32, u32_u8]; exact rfl) ?_; intro w0 A
        have hX := And.intro grD_eq (And.intro hdx (and_true))
        (repeat refine DX_seq ?_); refine rgx [1] ?_
        (repeat refine DX_seq ?_); refine rggx [2] ?_
        (repeat refine DX_seq ?_); refine DX_ret ?_; refine retx ?_; (try dsimp only [outV, unlist])
        exact Fin_pure rfl
    · skip
      have hdx : decide (0 ≤ g.sv) = true ∧ decide (g.sv ≤ 63) = false := ⟨decide_eq_true c0, decide_eq_false c1⟩
      rw [show rightB g = false by unfold rightB; simp; omega]
      have hX := and_true; refine PC_atX Tryd.func85 rfl Tryd.ntmps85 Tryd.results85 rfl (by simp only [argsL, Nat.reduceAdd, u32D, u8D, iD, bD, strD, u32_xor, u32_or, u32_and, u32_add, u32_not, u32_shr, u32_shl, u8_u32, u32_u8]; exact rfl) ?_; intro w0 A
      have hX := And.intro grD_eq (And.intro hdx (and_true))
      (repeat refine DX_seq ?_); refine rgx [1] ?_
      (repeat refine DX_seq ?_); refine rggx [2] ?_
      (repeat refine DX_seq ?_); refine DX_ret ?_; refine retx ?_; (try dsimp only [outV, unlist])
      exact Fin_pure rfl
  · skip
    have hdx : decide (0 ≤ g.sv) = false := decide_eq_false c0
    rw [show rightB g = false by unfold rightB; simp; omega]
    have hX := and_true; refine PC_atX Tryd.func85 rfl Tryd.ntmps85 Tryd.results85 rfl (by simp only [argsL, Nat.reduceAdd, u32D, u8D, iD, bD, strD, u32_xor, u32_or, u32_and, u32_add, u32_not, u32_shr, u32_shl, u8_u32, u32_u8]; exact rfl) ?_; intro w0 A
    have hX := And.intro grD_eq (And.intro hdx (and_true))
    (repeat refine DX_seq ?_); refine rgx [1] ?_
    (repeat refine DX_seq ?_); refine rggx [2] ?_
    (repeat refine DX_seq ?_); refine DX_ret ?_; refine retx ?_; (try dsimp only [outV, unlist])
    exact Fin_pure rfl
set_option maxHeartbeats 4000000 in
theorem apart_c (a b : Gr) : PC (envOf Tryd.prog) 83 [grD a, grD b] (bD (apartB a b)) := by
  by_cases c0 : a.sv < b.sv
  · skip
    have hdx : decide (a.sv < b.sv) = true := decide_eq_true c0
    rw [show apartB a b = true by unfold apartB; simp; omega]
    have hX := and_true; refine PC_atX Tryd.func83 rfl Tryd.ntmps83 Tryd.results83 rfl (by simp only [argsL, Nat.reduceAdd, u32D, u8D, iD, bD, strD, u32_xor, u32_or, u32_and, u32_add, u32_not, u32_shr, u32_shl, u8_u32, u32_u8]; exact rfl) ?_; intro w0 A
    have hX := And.intro grD_eq (And.intro hdx (and_true))
    (repeat refine DX_seq ?_); refine rgx [2, 3] ?_
    (repeat refine DX_seq ?_); refine rggx [4] ?_
    (repeat refine DX_seq ?_); refine DX_ret ?_; refine retx ?_; (try dsimp only [outV, unlist])
    exact Fin_pure rfl
  · skip
    by_cases c1 : a.sv = b.sv
    · skip
      by_cases c2 : a.un < b.fr
      · skip
        have hdx : decide (a.sv < b.sv) = false ∧ decide (a.sv = b.sv) = true ∧ decide (a.un < b.fr) = true := ⟨decide_eq_false c0, decide_eq_true c1, decide_eq_true c2⟩
        rw [show apartB a b = true by unfold apartB; simp; omega]
        have hX := and_true; refine PC_atX Tryd.func83 rfl Tryd.ntmps83 Tryd.results83 rfl (by simp only [argsL, Nat.reduceAdd, u32D, u8D, iD, bD, strD, u32_xor, u32_or, u32_and, u32_add, u32_not, u32_shr, u32_shl, u8_u32, u32_u8]; exact rfl) ?_; intro w0 A
        have hX := And.intro grD_eq (And.intro hdx (and_true))
        (repeat refine DX_seq ?_); refine rgx [2, 3] ?_
        (repeat refine DX_seq ?_); refine rggx [4] ?_
        (repeat refine DX_seq ?_); refine DX_ret ?_; refine retx ?_; (try dsimp only [outV, unlist])
        exact Fin_pure rfl
      · skip
        have hdx : decide (a.sv < b.sv) = false ∧ decide (a.sv = b.sv) = true ∧ decide (a.un < b.fr) = false := ⟨decide_eq_false c0, decide_eq_true c1, decide_eq_false c2⟩
        rw [show apartB a b = false by unfold apartB; simp; omega]
        have hX := and_true; refine PC_atX Tryd.func83 rfl Tryd.ntmps83 Tryd.results83 rfl (by simp only [argsL, Nat.reduceAdd, u32D, u8D, iD, bD, strD, u32_xor, u32_or, u32_and, u32_add, u32_not, u32_shr, u32_shl, u8_u32, u32_u8]; exact rfl) ?_; intro w0 A
        have hX := And.intro grD_eq (And.intro hdx (and_true))
        (repeat refine DX_seq ?_); refine rgx [2, 3] ?_
        (repeat refine DX_seq ?_); refine rggx [4] ?_
        (repeat refine DX_seq ?_); refine DX_ret ?_; refine retx ?_; (try dsimp only [outV, unlist])
        exact Fin_pure rfl
    · skip
      have hdx : decide (a.sv < b.sv) = false ∧ decide (a.sv = b.sv) = false := ⟨decide_eq_false c0, decide_eq_false c1⟩
      rw [show apartB a b = false by unfold apartB; simp; omega]
      have hX := and_true; refine PC_atX Tryd.func83 rfl Tryd.ntmps83 Tryd.results83 rfl (by simp only [argsL, Nat.reduceAdd, u32D, u8D, iD, bD, strD, u32_xor, u32_or, u32_and, u32_add, u32_not, u32_shr, u32_shl, u8_u32, u32_u8]; exact rfl) ?_; intro w0 A
      have hX := And.intro grD_eq (And.intro hdx (and_true))
      (repeat refine DX_seq ?_); refine rgx [2, 3] ?_
      (repeat refine DX_seq ?_); refine rggx [4] ?_
      (repeat refine DX_seq ?_); refine DX_ret ?_; refine retx ?_; (try dsimp only [outV, unlist])
      exact Fin_pure rfl
end Go.Proofs.YtedioenakmgdiaaDoor

namespace Go.Proofs.YtedioenakmgdiaaDoor
set_option linter.unusedSimpArgs false
set_option linter.unusedVariables false
set_option maxRecDepth 10000
open Go.RowKit
/-- the first k grants are right, and each stands behind the one ahead of it -/
def goodN (b : List Gr) : Nat → Bool
  | 0 => true
  | k + 1 => goodN b k && (rightB (b.getD k gz) && (decide (k = 0) || apartB (b.getD (k - 1) gz) (b.getD k gz)))
theorem goodN_no {b : List Gr} {k : Nat} (h : goodN b k = false) : ∀ j, goodN b (k + j) = false
  | 0 => h
  | j + 1 => by rw [← Nat.add_assoc, goodN, goodN_no h j]; rfl
theorem goodN_stop {b : List Gr} {k : Nat} (hk : k < b.length) (h : (rightB (b.getD k gz) && (decide (k = 0) || apartB (b.getD (k - 1) gz) (b.getD k gz))) = false) : goodN b b.length = false := by
  have h1 : goodN b (k + 1) = false := by rw [goodN, h, Bool.and_false]
  have := goodN_no h1 (b.length - (k + 1))
  rwa [show k + 1 + (b.length - (k + 1)) = b.length by omega] at this
theorem goodN_go {b : List Gr} {k : Nat} (h0 : goodN b k = true) (h : (rightB (b.getD k gz) && (decide (k = 0) || apartB (b.getD (k - 1) gz) (b.getD k gz))) = true) : goodN b (k + 1) = true := by rw [goodN, h0, h]; rfl
def chkS (b : List Gr) : Int := if 256 < b.length then 2 else if goodN b b.length = true then 0 else 2
set_option maxHeartbeats 8000000 in
theorem check_c (b : List Gr) : PC (envOf Tryd.prog) 47 [bkD b] (iD (chkS b)) := by
  by_cases hL : 256 < b.length
  · have d0 : decide ((256 : Int) < (b.length : Int)) = true := decide_eq_true (by omega)
    unfold chkS
    rw [if_pos hL]
    have hX := and_true; refine PC_atX Tryd.func47 rfl Tryd.ntmps47 Tryd.results47 rfl (by simp only [argsL, Nat.reduceAdd, u32D, u8D, iD, bD, strD, u32_xor, u32_or, u32_and, u32_add, u32_not, u32_shr, u32_shl, u8_u32, u32_u8]; exact rfl) ?_; intro w0 A
    have hX := And.intro bkD_eq (And.intro d0 (and_true))
    (repeat refine DX_seq ?_); refine rgx [0] ?_
    (repeat refine DX_seq ?_); refine rgx [0, 7] ?_
    (repeat refine DX_seq ?_); refine iftx ?_
    (repeat refine DX_seq ?_); refine rgx [2] ?_
    (repeat refine DX_seq ?_); refine DX_ret ?_; refine retx ?_; (try dsimp only [outV, unlist])
    exact Fin_pure rfl
  · have d0 : decide ((256 : Int) < (b.length : Int)) = false := decide_eq_false (by omega)
    unfold chkS
    rw [if_neg hL]
    have hX := and_true; refine PC_atX Tryd.func47 rfl Tryd.ntmps47 Tryd.results47 rfl (by simp only [argsL, Nat.reduceAdd, u32D, u8D, iD, bD, strD, u32_xor, u32_or, u32_and, u32_add, u32_not, u32_shr, u32_shl, u8_u32, u32_u8]; exact rfl) ?_; intro w0 A
    have hX := And.intro bkD_eq (And.intro d0 (and_true))
    (repeat refine DX_seq ?_); refine rgx [0] ?_
    (repeat refine DX_seq ?_); refine rgx [0, 7] ?_
    (repeat refine DX_seq ?_); refine iffx ?_
    (repeat refine DX_seq ?_); refine DX_skip ?_
    (repeat refine DX_seq ?_); refine rgx [0, 8, 9, 10] ?_
    (repeat refine DX_seq ?_); refine DX_block ?_
    (repeat refine DX_seq ?_); refine DX_loop (fun m _ st => ∃ k, k + m = b.length ∧ goodN b k = true ∧ st = mk [(0, bkD b), (8, bkD b), (9, iD (b.length : Int)), (10, iD (k : Int))] []) b.length ⟨_, WeakX.refl _, 0, by omega, rfl, by rfl⟩ ?_
    rintro m _ _ ⟨k, hk, hgk, rfl⟩
    have hX := And.intro bkD_eq (and_true)
    (repeat refine DX_seq ?_); refine rgx [0, 8, 9, 10, 11] ?_
    (repeat refine DX_seq ?_); refine ifx ?_ ?_
    · intro hc; (try simp only [hcs, ne_eq] at hc)
      have hkn : k < b.length := by omega
      have hst := goodN_stop hkn
      have hgo := goodN_go hgk (b := b) (k := k)
      clear hgk
      obtain ⟨x, hx⟩ : ∃ x, b.getD k gz = x := ⟨_, rfl⟩
      obtain ⟨y, hy⟩ : ∃ y, b.getD (k - 1) gz = y := ⟨_, rfl⟩
      rw [hx, hy] at hst hgo
      (repeat refine DX_seq ?_); refine DX_skip ?_
      (repeat refine DX_seq ?_); refine DX_block ?_
      have hX := And.intro bkD_eq (And.intro grD_eq (hx))
      (repeat refine DX_seq ?_); refine rgx [0, 3, 4, 8, 9, 10] ?_
      have kr := right_c x
      have ka := apart_c y x
      cases hr : rightB x with
      | false =>
        rw [hr] at hst kr
        have hX := And.intro bkD_eq (And.intro grD_eq (Bool.not_false))
        have hK := And.intro (kr) (And.intro (ka) trivial); (repeat refine DX_seq ?_); refine rqgx [0, 8, 9, 10, 31] ?_
        (repeat refine DX_seq ?_); refine iftx ?_
        (repeat refine DX_seq ?_); refine rgx [2] ?_
        rw [if_neg (by rw [hst (by rfl)]; decide)]
        (repeat refine DX_seq ?_); refine DX_ret ?_; refine retx ?_; (try dsimp only [outV, unlist])
        exact Fin_pure rfl
      | true =>
        rw [hr] at hst hgo kr
        by_cases h0 : k = 0
        · have dk : decide ((0 : Int) < (k : Int)) = false := decide_eq_false (by omega)
          replace hgo := hgo (by simp [h0])
          have hX := And.intro bkD_eq (And.intro grD_eq (And.intro dk (Bool.not_true)))
          have hK := And.intro (kr) (And.intro (ka) trivial); (repeat refine DX_seq ?_); refine rqgx [0, 8, 9, 10, 31] ?_
          (repeat refine DX_seq ?_); refine iffx ?_
          (repeat refine DX_seq ?_); refine DX_skip ?_
          (repeat refine DX_seq ?_); refine rgx [0, 8, 9, 10] ?_
          refine ⟨_, m - 1, WeakX.take 0 rfl rfl rfl, by omega, k + 1, by omega, hgo, ?_⟩
          first | rfl | simp [iD, bkD]
        · have dk : decide ((0 : Int) < (k : Int)) = true := decide_eq_true (by omega)
          have hkm : ((k : Int) - 1).toNat = k - 1 := by omega
          have d00 : decide (k = 0) = false := decide_eq_false h0
          cases ha : apartB y x with
          | false =>
            rw [ha, d00] at hst
            rw [ha] at ka
            have hX := And.intro bkD_eq (And.intro grD_eq (And.intro dk (And.intro hkm (And.intro hy (And.intro Bool.not_true (Bool.not_false))))))
            have hK := And.intro (kr) (And.intro (ka) trivial); (repeat refine DX_seq ?_); refine rqgx [0, 8, 9, 10, 31] ?_
            (repeat refine DX_seq ?_); refine iftx ?_
            (repeat refine DX_seq ?_); refine rgx [2] ?_
            rw [if_neg (by rw [hst (by rfl)]; decide)]
            (repeat refine DX_seq ?_); refine DX_ret ?_; refine retx ?_; (try dsimp only [outV, unlist])
            exact Fin_pure rfl
          | true =>
            rw [ha] at ka
            replace hgo := hgo (by rw [ha, Bool.or_true]; rfl)
            have hX := And.intro bkD_eq (And.intro grD_eq (And.intro dk (And.intro hkm (And.intro hy (And.intro Bool.not_true (Bool.not_false))))))
            have hK := And.intro (kr) (And.intro (ka) trivial); (repeat refine DX_seq ?_); refine rqgx [0, 8, 9, 10, 31] ?_
            (repeat refine DX_seq ?_); refine iffx ?_
            (repeat refine DX_seq ?_); refine DX_skip ?_
            (repeat refine DX_seq ?_); refine rgx [0, 8, 9, 10] ?_
            refine ⟨_, m - 1, WeakX.take 0 rfl rfl rfl, by omega, k + 1, by omega, hgo, ?_⟩
            first | rfl | simp [iD, bkD]
    · intro hc; (try simp only [hcs, ne_eq] at hc)
      obtain rfl : k = b.length := by omega
      rw [if_pos hgk]
      (repeat refine DX_seq ?_); refine DX_exit ?_
      (repeat refine DX_seq ?_); refine rgx [2] ?_
      (repeat refine DX_seq ?_); refine DX_ret ?_; refine retx ?_; (try dsimp only [outV, unlist])
      exact Fin_pure rfl
set_option maxHeartbeats 8000000 in
theorem refcheck_c (b : List Gr) : PC (envOf Tryd.prog) 48 [bkD b] (iD (chkS b)) := by
  by_cases hL : 256 < b.length
  · have d0 : decide ((256 : Int) < (b.length : Int)) = true := decide_eq_true (by omega)
    unfold chkS
    rw [if_pos hL]
    have hX := and_true; refine PC_atX Tryd.func48 rfl Tryd.ntmps48 Tryd.results48 rfl (by simp only [argsL, Nat.reduceAdd, u32D, u8D, iD, bD, strD, u32_xor, u32_or, u32_and, u32_add, u32_not, u32_shr, u32_shl, u8_u32, u32_u8]; exact rfl) ?_; intro w0 A
    have hX := And.intro bkD_eq (And.intro d0 (and_true))
    (repeat refine DX_seq ?_); refine rgx [0] ?_
    (repeat refine DX_seq ?_); refine rgx [0, 7] ?_
    (repeat refine DX_seq ?_); refine iftx ?_
    (repeat refine DX_seq ?_); refine rgx [2] ?_
    (repeat refine DX_seq ?_); refine DX_ret ?_; refine retx ?_; (try dsimp only [outV, unlist])
    exact Fin_pure rfl
  · have d0 : decide ((256 : Int) < (b.length : Int)) = false := decide_eq_false (by omega)
    unfold chkS
    rw [if_neg hL]
    have hX := and_true; refine PC_atX Tryd.func48 rfl Tryd.ntmps48 Tryd.results48 rfl (by simp only [argsL, Nat.reduceAdd, u32D, u8D, iD, bD, strD, u32_xor, u32_or, u32_and, u32_add, u32_not, u32_shr, u32_shl, u8_u32, u32_u8]; exact rfl) ?_; intro w0 A
    have hX := And.intro bkD_eq (And.intro d0 (and_true))
    (repeat refine DX_seq ?_); refine rgx [0] ?_
    (repeat refine DX_seq ?_); refine rgx [0, 7] ?_
    (repeat refine DX_seq ?_); refine iffx ?_
    (repeat refine DX_seq ?_); refine DX_skip ?_
    (repeat refine DX_seq ?_); refine rgx [0, 8, 9, 10] ?_
    (repeat refine DX_seq ?_); refine DX_block ?_
    (repeat refine DX_seq ?_); refine DX_loop (fun m _ st => ∃ k, k + m = b.length ∧ goodN b k = true ∧ st = mk [(0, bkD b), (8, bkD b), (9, iD (b.length : Int)), (10, iD (k : Int))] []) b.length ⟨_, WeakX.refl _, 0, by omega, rfl, by rfl⟩ ?_
    rintro m _ _ ⟨k, hk, hgk, rfl⟩
    have hX := And.intro bkD_eq (and_true)
    (repeat refine DX_seq ?_); refine rgx [0, 8, 9, 10, 11] ?_
    (repeat refine DX_seq ?_); refine ifx ?_ ?_
    · intro hc; (try simp only [hcs, ne_eq] at hc)
      have hkn : k < b.length := by omega
      have hst := goodN_stop hkn
      have hgo := goodN_go hgk (b := b) (k := k)
      clear hgk
      obtain ⟨x, hx⟩ : ∃ x, b.getD k gz = x := ⟨_, rfl⟩
      obtain ⟨y, hy⟩ : ∃ y, b.getD (k - 1) gz = y := ⟨_, rfl⟩
      rw [hx, hy] at hst hgo
      (repeat refine DX_seq ?_); refine DX_skip ?_
      (repeat refine DX_seq ?_); refine DX_block ?_
      have hX := And.intro bkD_eq (And.intro grD_eq (hx))
      (repeat refine DX_seq ?_); refine rgx [0, 3, 4, 8, 9, 10] ?_
      have kr := refright_c x
      cases hr : rightB x with
      | false =>
        rw [hr] at hst kr
        have hX := And.intro bkD_eq (And.intro grD_eq (Bool.not_false))
        have hK := And.intro (kr) trivial; (repeat refine DX_seq ?_); refine rgx [0, 3, 4, 8, 9, 10, 17] ?_
        (repeat refine DX_seq ?_); refine iftx ?_
        (repeat refine DX_seq ?_); refine rgx [2] ?_
        rw [if_neg (by rw [hst (by rfl)]; decide)]
        (repeat refine DX_seq ?_); refine DX_ret ?_; refine retx ?_; (try dsimp only [outV, unlist])
        exact Fin_pure rfl
      | true =>
        rw [hr] at hst hgo kr
        have hX := And.intro bkD_eq (And.intro grD_eq (Bool.not_true))
        have hK := And.intro (kr) trivial; (repeat refine DX_seq ?_); refine rgx [0, 3, 4, 8, 9, 10, 17] ?_
        (repeat refine DX_seq ?_); refine iffx ?_
        (repeat refine DX_seq ?_); refine DX_skip ?_
        by_cases h0 : k = 0
        · have dk : decide ((0 : Int) < (k : Int)) = false := decide_eq_false (by omega)
          replace hgo := hgo (by simp [h0])
          have hX := And.intro bkD_eq (And.intro grD_eq (dk))
          (repeat refine DX_seq ?_); refine rqgx [0, 8, 9, 10, 52] ?_
          (repeat refine DX_seq ?_); refine iffx ?_
          (repeat refine DX_seq ?_); refine DX_skip ?_
          (repeat refine DX_seq ?_); refine rgx [0, 8, 9, 10] ?_
          refine ⟨_, m - 1, WeakX.take 0 rfl rfl rfl, by omega, k + 1, by omega, hgo, ?_⟩
          first | rfl | simp [iD, bkD]
        · have dk : decide ((0 : Int) < (k : Int)) = true := decide_eq_true (by omega)
          have hkm : ((k : Int) - 1).toNat = k - 1 := by omega
          have d00 : decide (k = 0) = false := decide_eq_false h0
          by_cases h1 : x.sv < y.sv
          · have ha : apartB y x = false := by unfold apartB; simp; omega
            have d1 : decide (x.sv < y.sv) = true := decide_eq_true h1
            rw [ha, d00] at hst
            have hX := And.intro bkD_eq (And.intro grD_eq (And.intro dk (And.intro hkm (And.intro hy (d1)))))
            (repeat refine DX_seq ?_); refine rqgx [0, 8, 9, 10, 52] ?_
            (repeat refine DX_seq ?_); refine iftx ?_
            (repeat refine DX_seq ?_); refine rgx [2] ?_
            rw [if_neg (by rw [hst (by rfl)]; decide)]
            (repeat refine DX_seq ?_); refine DX_ret ?_; refine retx ?_; (try dsimp only [outV, unlist])
            exact Fin_pure rfl
          · have d1 : decide (x.sv < y.sv) = false := decide_eq_false h1
            by_cases h2 : x.sv = y.sv
            · have d2 : decide (x.sv = y.sv) = true := decide_eq_true h2
              by_cases h3 : x.fr ≤ y.un
              · have ha : apartB y x = false := by unfold apartB; simp; omega
                have d3 : decide (x.fr ≤ y.un) = true := decide_eq_true h3
                rw [ha, d00] at hst
                have hX := And.intro bkD_eq (And.intro grD_eq (And.intro dk (And.intro hkm (And.intro hy (And.intro d1 (And.intro d2 (d3)))))))
                (repeat refine DX_seq ?_); refine rqgx [0, 8, 9, 10, 52] ?_
                (repeat refine DX_seq ?_); refine iftx ?_
                (repeat refine DX_seq ?_); refine rgx [2] ?_
                rw [if_neg (by rw [hst (by rfl)]; decide)]
                (repeat refine DX_seq ?_); refine DX_ret ?_; refine retx ?_; (try dsimp only [outV, unlist])
                exact Fin_pure rfl
              · have ha : apartB y x = true := by unfold apartB; simp; omega
                have d3 : decide (x.fr ≤ y.un) = false := decide_eq_false h3
                replace hgo := hgo (by rw [ha, Bool.or_true]; rfl)
                have hX := And.intro bkD_eq (And.intro grD_eq (And.intro dk (And.intro hkm (And.intro hy (And.intro d1 (And.intro d2 (d3)))))))
                (repeat refine DX_seq ?_); refine rqgx [0, 8, 9, 10, 52] ?_
                (repeat refine DX_seq ?_); refine iffx ?_
                (repeat refine DX_seq ?_); refine DX_skip ?_
                (repeat refine DX_seq ?_); refine rgx [0, 8, 9, 10] ?_
                refine ⟨_, m - 1, WeakX.take 0 rfl rfl rfl, by omega, k + 1, by omega, hgo, ?_⟩
                first | rfl | simp [iD, bkD]
            · have d2 : decide (x.sv = y.sv) = false := decide_eq_false h2
              have ha : apartB y x = true := by unfold apartB; simp; omega
              replace hgo := hgo (by rw [ha, Bool.or_true]; rfl)
              have hX := And.intro bkD_eq (And.intro grD_eq (And.intro dk (And.intro hkm (And.intro hy (And.intro d1 (d2))))))
              (repeat refine DX_seq ?_); refine rqgx [0, 8, 9, 10, 52] ?_
              (repeat refine DX_seq ?_); refine iffx ?_
              (repeat refine DX_seq ?_); refine DX_skip ?_
              (repeat refine DX_seq ?_); refine rgx [0, 8, 9, 10] ?_
              refine ⟨_, m - 1, WeakX.take 0 rfl rfl rfl, by omega, k + 1, by omega, hgo, ?_⟩
              first | rfl | simp [iD, bkD]
    · intro hc; (try simp only [hcs, ne_eq] at hc)
      obtain rfl : k = b.length := by omega
      rw [if_pos hgk]
      (repeat refine DX_seq ?_); refine DX_exit ?_
      (repeat refine DX_seq ?_); refine rgx [2] ?_
      (repeat refine DX_seq ?_); refine DX_ret ?_; refine retx ?_; (try dsimp only [outV, unlist])
      exact Fin_pure rfl
end Go.Proofs.YtedioenakmgdiaaDoor
