/- Functions that write through a pointer which they are given. It speaks of no program of ours. -/
import Derived.Test.YtpibemolnjmgoaaDoorDs
namespace Go.Proofs.YtpibemolnjmgoaaDoor
set_option linter.unusedSimpArgs false
set_option linter.unusedVariables false
open Go.RowKit

/-- the block b stands for d -/
def Stand (w : World) (S : Nat → Prop) (b : Nat) (T : TypeId) (fz : Nat × Nat) (d : D) : Prop :=
  ∃ cs, w.heap[b]? = some (.cells cs T fz) ∧ cs.size = nc d ∧ unfro fz cs.size ∧ ∀ i (hi : i < cs.size), RI w S cs[i] (cell d i)
/-- a function whose first argument is a pointer to a block: what the block stands for is turned from d0 to d1, and r is handed back -/
def PM (E : Env) (f : FuncId) (d0 : D) (args : List D) (d1 r : D) : Prop :=
  ∀ (w : World) (S : Nat → Prop) (b : Nat) (T : TypeId) (fz : Nat × Nat) (vs : Array Value), Gok E w → (∀ k, S k → k < w.heap.size) → (∀ k, k < E.gN → S k) → ¬ S b → Stand w S b T fz d0 → All2 (RVI w S) vs.toList args →
    Calls E.P f (#[.pointer (some ⟨b, 0, none⟩)] ++ vs) w fun e w' => ∃ x, e = .returned x ∧ Fr (fun k => k < w.heap.size ∧ k ≠ b) w w' ∧ w'.shape? b = w.shape? b ∧
      (∃ fz', Stand w' (fun k => (S k ∨ w.heap.size ≤ k) ∧ k < w'.heap.size ∧ k ≠ b) b T fz' d1) ∧ RVI w' (fun k => (S k ∨ w.heap.size ≤ k) ∧ k < w'.heap.size ∧ k ≠ b) x r
def postM (C : Cx) (rs : List ResultVar) (d1 r : D) : Exit → St → Prop
  | .normal, st | .ret, st => ∃ p x, outD C st rs = some (p, x) ∧ p ∧ st.h[0]? = some (some (.one d1)) ∧ pureD d1 = true ∧ LeP x r
  | _, _ => False
theorem PM_at {E : Env} {f : FuncId} {fn : Func} {c : Code} {n : Nat} {rs : List ResultVar} {d0 : D} {args : List D} {l : List (Nat × D)} {d1 r : D} (hf : E.P.funcs[f]? = some fn) (hb : fn.body = some c) (hN : fn.ntmps = n) (hR : fn.results = rs.toArray) (hn : Nat.ble (args.length + 1) n = true) (hp : args.all pureD = true) (hl : argsL 0 (.ptr 0 0 :: args) = l)
    (hbody : ∀ (w0 : World) (A : Nat → Prop) (b : Nat), DW (mkF E n w0 A b) c (postM (mkF E n w0 A b) rs d1 r) (mk l [some (.one d0)])) : PM E f d0 args d1 r := by
  subst hN
  subst hl
  intro w S b T fz vs hG hS hg hSb hst hv
  have hn2 : args.length + 1 ≤ fn.ntmps := by simpa using hn
  obtain ⟨hlen, hget⟩ := hv.get
  rw [Array.length_toList] at hlen
  obtain ⟨cs, g1, g2, g3, g4⟩ := hst
  have hblt : b < w.heap.size := (Array.getElem?_eq_some_iff.1 g1).1
  have hSf : ∀ k, S k → Sf (mkF E fn.ntmps w S b) w [some b] k := fun k hk => ⟨.inl hk, hS k hk, fun i hi => by
    rcases i with _ | i
    · simp at hi; subst hi; exact hSb hk
    · simp at hi⟩
  have hC : Rel (mkF E fn.ntmps w S b) (mk (argsL 0 (.ptr 0 0 :: args)) [some (.one d0)]) [some b] { tmps := #[.pointer (some ⟨b, 0, none⟩)] ++ vs ++ Array.replicate (fn.ntmps - (#[Value.pointer (some ⟨b, 0, none⟩)] ++ vs).size) undef, defers := [] } w := by
    refine ⟨rfl, by simp [mkF]; omega, fun t => ?_, ⟨rfl, ?_, ?_, ?_, ⟨rfl, rfl, rfl, Nat.le_refl _, fun _ _ => rfl⟩, fun k hk => ⟨⟨hS k (hg k hk), fun e => hSb (e ▸ hg k hk)⟩, hg k hk⟩, hG.gl, hG.tok, hG.mix, fun k hk => hk.1, ?_⟩⟩
    · simp only [mk, look_argsL, Nat.zero_le, if_true, Nat.sub_zero]
      cases t with
      | zero =>
        have : (#[Value.pointer (some ⟨b, 0, none⟩)] ++ vs ++ Array.replicate (fn.ntmps - (#[Value.pointer (some ⟨b, 0, none⟩)] ++ vs).size) undef).getD 0 undef = .pointer (some ⟨b, 0, none⟩) := by
          simp [Array.getD_eq_getD_getElem?, Array.getElem?_append]
        rw [this]
        exact R1.ptr rfl
      | succ t =>
        simp only [List.getD_cons_succ]
        by_cases ht : t < vs.size
        · have h1 := hget t (by simpa using ht) (by omega)
          have e1 : (#[Value.pointer (some ⟨b, 0, none⟩)] ++ vs ++ Array.replicate (fn.ntmps - (#[Value.pointer (some ⟨b, 0, none⟩)] ++ vs).size) undef).getD (t + 1) undef = vs.toList[t]'(by simpa using ht) := by
            simp [Array.getD_eq_getD_getElem?, Array.getElem?_append, ht]
          have e2 : args.getD t .dead = args[t]'(by omega) := by simp [List.getD_eq_getElem?_getD, show t < args.length by omega]
          rw [e1, e2]
          exact RG.mono (fun x d hr => .im (hr.mono fun k hk => ⟨hSf k hk, rfl⟩)) h1
        · have e2 : args.getD t .dead = .dead := by simp [List.getD_eq_getElem?_getD, show args[t]? = none from List.getElem?_eq_none (by omega)]
          rw [e2]; trivial
    · intro i j k hi hj
      rcases i with _ | i <;> rcases j with _ | j <;> simp at hi hj ⊢
    · intro i k hi
      rcases i with _ | i
      · simp at hi; subst hi; exact ⟨hblt, fun h => h.2 rfl⟩
      · simp at hi
    · intro i k hk
      rcases i with _ | i
      · simp [mk] at hk
        subst hk
        exact .inl ⟨b, rfl, cs, T, fz, g1, g2, g3, fun i hi => .im ((g4 i hi).mono fun k hk => ⟨hSf k hk, rfl⟩)⟩
      · simp [mk] at hk
    · intro i k hi
      simp only [mkF] at hi
      split at hi
      · rename_i h0; subst h0; exact ⟨by simpa using hi, rfl⟩
      · cases hi
  refine calls_of_wp hf hb (wp_mono (hbody w S b [some b] _ w hC) fun e a' w' ⟨st', bs', h1, h2⟩ => ?_)
  have key : (∃ p x, outD (mkF E fn.ntmps w S b) st' rs = some (p, x) ∧ p ∧ st'.h[0]? = some (some (.one d1)) ∧ pureD d1 = true ∧ LeP x r) → a'.defers = [] ∧ ∃ v, (results fn a'.tmps).run E.P w' = .ok v w' ∧ ∃ x, Ending.returned v = .returned x ∧ Fr (fun k => k < w.heap.size ∧ k ≠ b) w w' ∧ w'.shape? b = w.shape? b ∧
      (∃ fz', Stand w' (fun k => (S k ∨ w.heap.size ≤ k) ∧ k < w'.heap.size ∧ k ≠ b) b T fz' d1) ∧ RVI w' (fun k => (S k ∨ w.heap.size ≤ k) ∧ k < w'.heap.size ∧ k ≠ b) x r := by
    rintro ⟨p, x, e1, e2, e3, e4, e5⟩
    obtain ⟨y, hy1, hy2⟩ := run_outD (fn := fn) h1 (by rw [hR]; exact e1) e2
    obtain ⟨f1, f2⟩ := h1.wr.fix 0 b (by simp [mkF])
    obtain ⟨cs', T', fz', k1, k2, k3, k4⟩ := h1.wr.at e3 f1
    have hT : T' = T := by
      have a1 : w'.shape? b = some (T', cs'.size) := by unfold World.shape?; rw [k1]
      have a2 : w.shape? b = some (T, cs.size) := by unfold World.shape?; rw [g1]
      have a3 : w'.shape? b = w.shape? b := f2
      rw [a1, a2] at a3
      simp at a3
      exact a3.1
    subst hT
    have hS' : ∀ k, Sf (mkF E fn.ntmps w S b) w' bs' k → ((S k ∨ w.heap.size ≤ k) ∧ k < w'.heap.size ∧ k ≠ b) ∧ w'.heap[k]? = w'.heap[k]? := fun k hk => ⟨⟨hk.1, hk.2.1, fun e => hk.2.2 0 (by rw [e]; exact f1)⟩, rfl⟩
    refine ⟨h1.defers, y, hy1, y, rfl, h1.wr.fr, f2, ⟨fz', cs', k1, k2, k3, fun i hi => ((k4 i hi).pure (pure_cell e4 i)).mono hS'⟩, ?_⟩
    exact RG.mono (fun x d hr => hr.mono hS') (e5 _ _ _ _ _ h1.wr hy2)
  cases e with
  | normal => exact key h2
  | ret => exact key h2
  | exit id => exact h2.elim
  | goto l => exact h2.elim
  | panic ch => exact h2.elim
  | outgrown => exact h2.elim
/-- a call of such a function, with a pointer to an own block -/
theorem DO_callM {E : Env} {C : Cx} (hE : EnvC E C) {o : Oper} {st : St} {f : FuncId} {args : Array Operand} {ts : Array TypeId} {l : Nat} {d0 d1 r : D} {xs : List D} (ho : o.op = .call { callee := .value (.func f), args := args, argTypes := ts }) (hd : dstB C o = true) (hf : fnB C.P f = true)
    (hx : argsD C st o = .fn f .nil :: .ptr l 0 :: xs) (hp : xs.all pureD = true) (hl : st.h[l]? = some (some (.one d0))) (hp0 : pureD d0 = true) (hc : PM E f d0 xs d1 r) : DO C o st (St.put { st with h := st.h.set l (some (.one d1)) } o.dst r) := by
  intro bs a w hr
  have ha := All2.map (R := RV C w bs) (f := a.eval) (g := evD C st) o.op.operands.toList (fun x _ => RV_evD hr x)
  have hargs : o.op.operands.toList.map (evD C st) = .fn f .nil :: .ptr l 0 :: xs := hx
  rw [hargs] at ha
  obtain ⟨vs, hrun, hv⟩ := call_args (C := C) (cs := []) (by simp) hf ho ha
  rw [List.append_nil] at hv
  cases hvl : vs.toList with
  | nil => rw [hvl] at hv; cases hv
  | cons v0 vt =>
    rw [hvl] at hv
    cases hv with
    | cons hv0 hvt =>
      obtain ⟨b, rfl, hb⟩ := RV_ptr hv0
      obtain ⟨cs, T, fz, g1, g2, g3, g4⟩ := hr.wr.at hl hb
      have hvs : vs = #[.pointer (some ⟨b, 0, none⟩)] ++ vt.toArray := by
        apply Array.ext'
        rw [hvl]
        simp
      have hGok := Gok_of hE hr.wr
      have hnS : ¬ Sf C w bs b := fun h => h.2.2 l hb
      have hcall := hc w (Sf C w bs) b T fz vt.toArray hGok (fun k hk => hk.2.1) (by rw [hE.gN]; exact Sf_g hr.wr) hnS ⟨cs, g1, g2, g3, fun i hi => (g4 i hi).pure (pure_cell hp0 i)⟩
        (by
          simp only
          refine All2.imp (K := fun d e => d = e ∧ pureD d = true) (fun a b c h1 h2 => ?_) hvt (All2.reflP fun x hx' => ⟨rfl, List.all_eq_true.1 hp x hx'⟩)
          obtain ⟨rfl, h3⟩ := h2
          exact RG.imp h3 (fun _ _ hp' h => h.pure hp') h1)
      rw [hE.P] at hcall
      rw [hrun, hvs]
      refine hcall.mono fun e w' ⟨x, he, hfr, hsh, ⟨fz', cs', k1, k2, k3, k4⟩, hxr⟩ => ⟨x, he, bs, ?_⟩
      have hE2 : Ext C w bs w' bs := by
        refine ⟨fun k hk => ⟨⟨hk.1, Nat.lt_of_lt_of_le hk.2.1 hfr.size, hk.2.2⟩, hfr.block k ⟨hk.2.1, fun e => hk.2.2 l (by rw [e]; exact hb)⟩⟩, fun i k hk => ⟨hk, ?_⟩⟩
        by_cases e : k = b
        · rw [e]; exact hsh
        · exact shape_of_heap (hfr.block k ⟨(hr.wr.ok i k hk).1, e⟩)
      have hSf' : ∀ k, ((Sf C w bs k ∨ w.heap.size ≤ k) ∧ k < w'.heap.size ∧ k ≠ b) → Sf C w' bs k ∧ w'.heap[k]? = w'.heap[k]? := fun k hk => by
        refine ⟨?_, rfl⟩
        rcases hk.1 with h1 | h1
        · exact ⟨h1.1, hk.2.1, h1.2.2⟩
        · exact ⟨.inr (Nat.le_trans hr.wr.fr.size h1), hk.2.1, fun i hi => by have := (hr.wr.ok i k hi).1; omega⟩
      have hw := hr.wr
      have hwr : WR C (st.h.set l (some (.one d1))) bs w' := by
        refine ⟨by simp [hw.len], hw.inj, fun i k hk => ⟨Nat.lt_of_lt_of_le (hw.ok i k hk).1 hfr.size, (hw.ok i k hk).2⟩, fun i k' hk' => ?_, ?_, hw.gl, hw.g0, hw.tok, hw.mix, hw.s0, fun i k hi => ⟨(hw.fix i k hi).1, (hE2.ow i k (hw.fix i k hi).1).2.trans (hw.fix i k hi).2⟩⟩
        · rw [List.getElem?_set] at hk'
          split at hk'
          · rename_i hil
            subst hil
            split at hk'
            · simp at hk'; subst hk'
              exact .inl ⟨b, hb, cs', T, fz', k1, k2, k3, fun i hi => .im ((k4 i hi).mono hSf')⟩
            · cases hk'
          · rename_i hil
            rcases hw.blk i k' hk' with ⟨b', hb', hB⟩ | h0
            · refine .inl ⟨b', hb', hB.ext hE2 (hfr.block b' ⟨(hw.ok i b' hb').1, fun e => hil ?_⟩)⟩
              subst e
              exact (hw.inj i l b' hb' hb).symm
            · exact .inr h0
        · have hf0 := hw.fr
          exact ⟨hfr.os.trans hf0.os, hfr.tape.trans hf0.tape, hfr.output.trans hf0.output, Nat.le_trans hf0.size hfr.size, fun k hk => (hfr.block k ⟨by have := hw.s0 k hk; have := hf0.size; omega, fun e => (hw.ok l b hb).2 (by rw [← e]; exact hk)⟩).trans (hf0.block k hk)⟩
      exact Rel.put (st := { st with h := st.h.set l (some (.one d1)) }) ⟨hr.defers, hr.size, fun t => RV.ext hE2 (hr.slots t), hwr⟩ (dstB_spec hd) (RG.mono (fun x d hr' => .im (hr'.mono hSf')) hxr)
end Go.Proofs.YtpibemolnjmgoaaDoor
