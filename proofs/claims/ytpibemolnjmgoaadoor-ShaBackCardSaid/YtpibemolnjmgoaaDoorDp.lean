/- Functions, by their bodies. It speaks of no program of ours. -/
import Derived.Test.YtpibemolnjmgoaaDoorDo
namespace Go.Proofs.YtpibemolnjmgoaaDoor
set_option linter.unusedSimpArgs false
set_option linter.unusedVariables false
open Go.RowKit

def mkC (E : Env) (n : Nat) (w0 : World) (A S0 : Nat → Prop) : Cx := ⟨E.P, E.T, E.tab, E.gN, n, w0, A, S0, fun _ => none⟩
theorem envC (E : Env) (n : Nat) (w0 : World) (A S0 : Nat → Prop) : EnvC E (mkC E n w0 A S0) := ⟨rfl, rfl, rfl, rfl⟩

def mkF (E : Env) (n : Nat) (w0 : World) (A : Nat → Prop) (b : Nat) : Cx := ⟨E.P, E.T, E.tab, E.gN, n, w0, A, fun k => k < w0.heap.size ∧ k ≠ b, fun i => if i = 0 then some b else none⟩
theorem envF (E : Env) (n : Nat) (w0 : World) (A : Nat → Prop) (b : Nat) : EnvC E (mkF E n w0 A b) := ⟨rfl, rfl, rfl, rfl⟩
def resultV (P : Program) (tmps : Array Value) : ResultVar → Sem Value
  | .tmp t => pure (tmps.getD t undef)
  | .cell a t => do loadVar t (← asAddr (tmps.getD a undef))
theorem run_results {P : Program} {fn : Func} {tmps : Array Value} {w : World} {vs : List Value} (h : (fn.results.toList.mapM (resultV P tmps)).run P w = .ok vs w) :
    (results fn tmps).run P w = .ok (if h : vs.length = 1 then vs[0] else .tuple vs.toArray) w := by
  have e : results fn tmps = (do let vs ← fn.results.mapM (resultV P tmps); pure (if h : vs.size = 1 then vs[0] else .tuple vs)) := by
    unfold results
    congr 1
  rw [e, Array.mapM_eq_mapM_toList]
  simp only [Sem.run_bind, Sem.run_map, h, Result.andThen_ok]
  by_cases h1 : vs.length = 1
  · simp [h1]
  · simp [h1]

/-- what results stand for, one by one -/
theorem run_resD {C : Cx} {st : St} {bs : List (Option Nat)} {a : Act} {w : World} (hr : Rel C st bs a w) : ∀ {rs : List ResultVar} {p : Prop} {d : D}, resD C st rs = some (p, d) → p →
    ∃ vs, (rs.mapM (resultV C.P a.tmps)).run C.P w = .ok vs w ∧ vs.length = rs.length ∧ ∃ ds : List D, d = listD ds ∧ All2 (RV C w bs) vs ds
  | [], p, d, h, hp => by
    simp only [resD, Option.some.injEq, Prod.mk.injEq] at h
    obtain ⟨rfl, rfl⟩ := h
    exact ⟨[], by simp, rfl, [], rfl, .nil⟩
  | .tmp t :: rs, p, d, h, hp => by
    simp only [resD] at h
    split at h
    · rename_i q d' hd'
      simp only [Option.some.injEq, Prod.mk.injEq] at h
      obtain ⟨rfl, rfl⟩ := h
      obtain ⟨vs, h1, h2, ds, rfl, h3⟩ := run_resD hr hd' hp
      refine ⟨a.tmps.getD t undef :: vs, ?_, by simp [h2], st.s t :: ds, rfl, .cons (hr.slots t) h3⟩
      simp only [List.mapM_cons, Sem.run_bind, resultV, Sem.run_pure, Result.andThen_ok, h1]
    · cases h
  | .cell t ty :: rs, p, d, h, hp => by
    simp only [resD] at h
    split at h
    · rename_i q r p' d' hl hd'
      simp only [Option.some.injEq, Prod.mk.injEq] at h
      obtain ⟨rfl, rfl⟩ := h
      obtain ⟨hq, hp'⟩ := hp
      obtain ⟨vs, h1, h2, ds, rfl, h3⟩ := run_resD hr hd' hp'
      obtain ⟨b, off, x, e1, hv, hx⟩ := run_loadD hr.wr (hr.slots t) hl hq
      refine ⟨x :: vs, ?_, by simp [h2], r :: ds, rfl, .cons hx h3⟩
      simp [List.mapM_cons, Sem.run_bind, resultV, e1, asAddr, hv, h1]
    · cases h

def outV : List D → D
  | [d] => d
  | ds => .tup (listD ds)
def unlist : D → List D
  | .cons h t => h :: unlist t
  | _ => []
theorem unlist_listD : ∀ ds : List D, unlist (listD ds) = ds
  | [] => rfl
  | d :: ds => by simp [listD, unlist, unlist_listD ds]
/-- what a state hands back -/
def outD (C : Cx) (st : St) (rs : List ResultVar) : Option (Prop × D) :=
  match resD C st rs with
  | some (p, d) => some (p ∧ (unlist d).all noTup = true, outV (unlist d))
  | none => none
theorem RG0_of_RG {R : Value → D → Prop} {x : Value} {d : D} (hn : noTup d = true) (h : RG R x d) : RG0 R x d := by
  cases d <;> first | exact h | (exact absurd hn (by simp [noTup]))
theorem TG_listD {R : Value → D → Prop} : ∀ {vs : List Value} {ds : List D}, ds.all noTup = true → All2 (RG R) vs ds → TG R vs (listD ds)
  | [], [], _, _ => trivial
  | x :: xs, d :: ds, hn, h => by
    simp only [List.all_cons, Bool.and_eq_true] at hn
    cases h with | cons h t => exact ⟨RG0_of_RG hn.1 h, TG_listD hn.2 t⟩
  | [], _ :: _, _, h => by cases h
  | _ :: _, [], _, h => by cases h
theorem run_outD {C : Cx} {st : St} {bs : List (Option Nat)} {a : Act} {w : World} (hr : Rel C st bs a w) {fn : Func} {p : Prop} {d : D} (h : outD C st fn.results.toList = some (p, d)) (hp : p) : ∃ x, (results fn a.tmps).run C.P w = .ok x w ∧ RV C w bs x d := by
  unfold outD at h
  split at h
  · rename_i q d' hd
    simp only [Option.some.injEq, Prod.mk.injEq] at h
    obtain ⟨rfl, rfl⟩ := h
    obtain ⟨hq, hn⟩ := hp
    obtain ⟨vs, h1, h2, ds, rfl, h3⟩ := run_resD hr hd hq
    rw [unlist_listD] at hn ⊢
    refine ⟨_, run_results h1, ?_⟩
    obtain ⟨hlen, _⟩ := h3.get
    cases h3 with
    | nil => exact ⟨#[], rfl, trivial⟩
    | cons hx ht =>
      cases ht with
      | nil => simpa [outV] using hx
      | cons hy ht' =>
        rw [dif_neg (by simp)]
        refine ⟨_, rfl, ?_⟩
        exact TG_listD hn (.cons hx (.cons hy ht'))
  · cases h

/-- what is handed back, taken for d, when the call is over -/
def Fin (h : List (Option Bk)) (r d : D) : Prop := ∀ (C : Cx) (w : World) (bs : List (Option Nat)) (x : Value), (∀ b, b < C.w0.heap.size → C.S0 b) → WR C h bs w → RV C w bs x r → RVI w (fun b => (C.A b ∨ C.w0.heap.size ≤ b) ∧ b < w.heap.size) x d
theorem Fin_of_LeP {h : List (Option Bk)} {r d : D} (k : LeP r d) : Fin h r d := fun C w bs x _ hw hx => RG.mono (fun _ _ hr => hr.mono fun b hb => ⟨⟨hb.1, hb.2.1⟩, rfl⟩) (k C h w bs x hw hx)
theorem Fin_pure {h : List (Option Bk)} {d : D} (hp : pureD d = true) : Fin h d d := Fin_of_LeP (LeP.refl hp)
/-- a slice, by its elements -/
theorem Fin_elems {h : List (Option Bk)} {d : D} {p : Prop} {es : List D} {α : Type} {l : List α} {z : α} {f : α → D} (hd : (match d with | .own .. => true | .osl .. => true | _ => false) = true) (he : elems h d = some (p, es)) (hp : p) (hl : es = l.map f) (hpure : ∀ x, pureD (f x) = true) : Fin h d (.sl l z f) := by
  intro C w bs x hS0 hw hx
  obtain ⟨a, cap, rfl, hcap, hor⟩ := elems_spec hw hx he hp
  have hblk : ∀ b off, a = some ⟨b, off, none⟩ → es ≠ [] → C.w0.heap.size ≤ b := fun b off ha hne => by
    cases d <;> simp only at hd <;> try cases hd
    · rcases RV_own hx with ⟨h1, _⟩ | ⟨b', cap', h1, h2, _⟩
      · rw [ha] at h1; simp at h1
      · rw [ha] at h1
        simp at h1
        have := (hw.ok _ _ h2).2
        rw [← h1.1.1] at this
        exact Nat.le_of_not_lt fun hlt => this (hS0 _ hlt)
    · obtain ⟨a', cap', h1, _, h2⟩ := RV_osl hx
      rcases h2 with h2 | ⟨b', h2, h3⟩
      · simp only [Value.slice.injEq] at h1
        exact absurd (List.eq_nil_of_length_eq_zero (by omega)) hne
      · rw [ha, h2] at h1
        simp at h1
        have := (hw.ok _ _ h3).2
        rw [← h1.1.1] at this
        exact Nat.le_of_not_lt fun hlt => this (hS0 _ hlt)
  subst hl
  rw [List.length_map] at hcap ⊢
  show RI w _ _ _
  rcases hor with h0 | ⟨b, off, sz, rfl, hR⟩
  · have : l = [] := by simpa using h0
    subst this
    exact .sl0
  · by_cases hne : l = []
    · subst hne; exact .sl0
    · have hcell : ∀ i j, i < l.length → j < sz → ∃ y, w.cell? ⟨b, off + (i * sz + j), none⟩ = some y ∧ RI w (fun b => (C.A b ∨ C.w0.heap.size ≤ b) ∧ b < w.heap.size) y (cell (f (l.getD i z)) j) := fun i j hi hj => by
        obtain ⟨y, h1, h2⟩ := hR.cells i j (by simpa using hi) hj
        refine ⟨y, h1, ?_⟩
        have h3 := h2.pure (pure_cell (by simpa using hpure (l[i])) j)
        have h4 := h3.mono (S' := fun b => (C.A b ∨ C.w0.heap.size ≤ b) ∧ b < w.heap.size) (w' := w) fun b hb => ⟨⟨hb.1, hb.2.1⟩, rfl⟩
        simpa [List.getD_eq_getElem?_getD, hi] using h4
      refine .sl sz (fun i j => (w.cell? ⟨b, off + (i * sz + j), none⟩).getD undef) ⟨.inr (hblk b off rfl (by simpa using hne)), hR.lt⟩ hcap (fun i hi => ?_) (fun i j hi hj => ?_) (fun i j hi hj => ?_)
      · have := hR.nsz (f (l[i])) (List.mem_map_of_mem (List.getElem_mem hi))
        simpa [List.getD_eq_getElem?_getD, hi] using this
      · obtain ⟨y, h1, _⟩ := hcell i j hi hj
        simp [h1]
      · obtain ⟨y, h1, h2⟩ := hcell i j hi hj
        simpa [h1] using h2

def postD (C : Cx) (rs : List ResultVar) (d : D) : Exit → St → Prop
  | .normal, st | .ret, st => ∃ p r, outD C st rs = some (p, r) ∧ p ∧ Fin st.h r d
  | _, _ => False
def argsL : Nat → List D → List (Nat × D)
  | _, [] => []
  | k, d :: ds => (k, d) :: argsL (k + 1) ds
theorem look_argsL : ∀ (ds : List D) (k t : Nat), look (argsL k ds) t = if k ≤ t then ds.getD (t - k) .dead else .dead
  | [], k, t => by simp [argsL, look]
  | d :: ds, k, t => by
    simp only [argsL, look, look_argsL ds]
    by_cases h1 : t = k
    · subst h1; simp
    · by_cases h2 : k ≤ t
      · rw [if_neg h1, if_pos (by omega), if_pos h2]
        obtain ⟨m, hm⟩ : ∃ m, t - k = m + 1 := ⟨t - k - 1, by omega⟩
        rw [hm, show t - (k + 1) = m by omega]
        simp
      · rw [if_neg h1, if_neg (by omega), if_neg h2]
theorem PC_of {E : Env} {f : FuncId} {fn : Func} {c : Code} {args : List D} {d : D} (hf : E.P.funcs[f]? = some fn) (hb : fn.body = some c) (hn' : Nat.ble args.length fn.ntmps = true) (hp : args.all pureD = true)
    (hbody : ∀ (w0 : World) (A : Nat → Prop), DW (mkC E fn.ntmps w0 A (fun b => b < w0.heap.size)) c (postD (mkC E fn.ntmps w0 A (fun b => b < w0.heap.size)) fn.results.toList d) (mk (argsL 0 args) [])) : PC E f args d := by
  intro w S vs hG hS hg hv
  have hn : args.length ≤ fn.ntmps := by simpa using hn'
  obtain ⟨hlen, hget⟩ := hv.get
  rw [Array.length_toList] at hlen
  have hC : Rel (mkC E fn.ntmps w S (fun b => b < w.heap.size)) (mk (argsL 0 args) []) [] { tmps := vs ++ Array.replicate (fn.ntmps - vs.size) undef, defers := [] } w := by
    refine ⟨rfl, by simp [mkC]; omega, fun t => ?_, ⟨rfl, by simp, by simp, by simp [mk], ⟨rfl, rfl, rfl, Nat.le_refl _, fun _ _ => rfl⟩, fun b hb => ⟨hS b (hg b hb), hg b hb⟩, hG.gl, hG.tok, hG.mix, fun b hb => hb, by simp [mkC]⟩⟩
    simp only [mk, look_argsL, Nat.zero_le, if_true, Nat.sub_zero]
    by_cases ht : t < vs.size
    · have h1 := hget t (by simpa using ht) (by omega)
      have e1 : (vs ++ Array.replicate (fn.ntmps - vs.size) undef).getD t undef = vs.toList[t]'(by simpa using ht) := by
        simp [Array.getD_eq_getD_getElem?, Array.getElem?_append_left ht, ht]
      have e2 : args.getD t .dead = args[t]'(by omega) := by simp [List.getD_eq_getElem?_getD, show t < args.length by omega]
      rw [e1, e2]
      have hpu : pureD (args[t]'(by omega)) = true := by
        have := List.all_eq_true.1 hp
        exact this _ (List.getElem_mem _)
      exact RG.mono (fun x d hr => .im (hr.mono fun b hb => ⟨⟨.inl hb, hS b hb, by simp⟩, rfl⟩)) h1
    · have e2 : args.getD t .dead = .dead := by simp [List.getD_eq_getElem?_getD, show args[t]? = none from List.getElem?_eq_none (by omega)]
      rw [e2]; trivial
  refine calls_of_wp hf hb (wp_mono (hbody w S [] _ w hC) fun e a' w' ⟨st', bs', h1, h2⟩ => ?_)
  have key : (∃ p r, outD (mkC E fn.ntmps w S (fun b => b < w.heap.size)) st' fn.results.toList = some (p, r) ∧ p ∧ Fin st'.h r d) → a'.defers = [] ∧ ∃ v, (results fn a'.tmps).run E.P w' = .ok v w' ∧ ∃ x, Ending.returned v = .returned x ∧ Below w.heap.size w w' ∧ RVI w' (fun b => (S b ∨ w.heap.size ≤ b) ∧ b < w'.heap.size) x d := by
    rintro ⟨p, r, e1, e2, e3⟩
    obtain ⟨x, hx1, hx2⟩ := run_outD h1 e1 e2
    have hfr := h1.wr.fr
    exact ⟨h1.defers, x, hx1, x, rfl, ⟨hfr.os, hfr.tape, hfr.output, hfr.size, hfr.block⟩, e3 _ w' bs' x (fun b hb => hb) h1.wr hx2⟩
  cases e with
  | normal => exact key h2
  | ret => exact key h2
  | exit id => exact h2.elim
  | goto l => exact h2.elim
  | panic ch => exact h2.elim
  | outgrown => exact h2.elim
/-- the same, the numbers written out -/
theorem PC_at {E : Env} {f : FuncId} {fn : Func} {c : Code} {n : Nat} {rs : List ResultVar} {args : List D} {l : List (Nat × D)} {d : D} (hf : E.P.funcs[f]? = some fn) (hb : fn.body = some c) (hN : fn.ntmps = n) (hR : fn.results = rs.toArray) (hn : Nat.ble args.length n = true) (hp : args.all pureD = true) (hl : argsL 0 args = l)
    (hbody : ∀ (w0 : World) (A : Nat → Prop), DW (mkC E n w0 A (fun b => b < w0.heap.size)) c (postD (mkC E n w0 A (fun b => b < w0.heap.size)) rs d) (mk l [])) : PC E f args d := by
  subst hN
  subst hl
  refine PC_of hf hb hn hp ?_
  rw [hR]
  exact hbody
end Go.Proofs.YtpibemolnjmgoaaDoor
