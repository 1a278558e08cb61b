/- One operation, and a region of operations, on what values stand for. It speaks of no program of ours. -/
import Derived.Test.YtpibemolnjmgoaaDoorDb
import Derived.StillTail
namespace Go.Proofs.YtpibemolnjmgoaaDoor
set_option linter.unusedSimpArgs false
set_option linter.unusedVariables false
open Go.RowKit

/-- what an operation hands on -/
def Up (P : Program) (r : Result Next) (post : Value → World → Prop) : Prop :=
  match r with
  | .ok (.value x) w' => post x w'
  | .ok .skip w' => post undef w'
  | .ok (.enter f args) w' => Calls P f args w' fun e w'' => ∃ x, e = .returned x ∧ post x w''
  | _ => False
theorem Up.mono {P : Program} {r : Result Next} {post post' : Value → World → Prop} (h : Up P r post) (hp : ∀ x w, post x w → post' x w) : Up P r post' := by
  unfold Up at *
  split at h
  · exact hp _ _ h
  · exact hp _ _ h
  · exact h.mono fun e w'' ⟨x, he, hx⟩ => ⟨x, he, hp _ _ hx⟩
  · exact h.elim
theorem Up.wp {P : Program} {o : Oper} {a : Act} {w : World} {next : Act → World → Prop} {Q : Exit → Act → World → Prop} {post : Value → World → Prop}
    (h : Up P ((execOp a.eval o).run P w) post) (hn : ∀ x w', post x w' → next (a.put o.dst x) w') : o.wp P a w next Q := by
  unfold Oper.wp
  generalize (execOp a.eval o).run P w = r at h
  unfold Up at h
  split at h
  · exact hn _ _ h
  · exact hn _ _ h
  · rw [Oper.upon_enter]
    refine h.mono fun e w'' ⟨x, he, hx⟩ => ?_
    subst he
    exact hn _ _ hx
  · exact h.elim

def aD : List Value → D
  | [] => .nil
  | x :: xs => .cons (.v x) (aD xs)
def B (l : List UInt8) : ByteArray := ⟨l.toArray⟩
def L (s : ByteArray) : List UInt8 := s.data.toList
theorem B_L (s : ByteArray) : B (L s) = s := by obtain ⟨⟨l⟩⟩ := s; rfl
theorem L_B (l : List UInt8) : L (B l) = l := rfl
theorem L_mk (l : List UInt8) : L ⟨l.toArray⟩ = l := rfl
def cD : Value → D
  | .string s => .v (.string (B (L s)))
  | .agg cs => if cs.toList.all isC then aD cs.toList else .dead
  | .tuple _ => .dead
  | x => .v x
def gip : D → D
  | .dead => .dead
  | d => .ip d
theorem gip_of {d : D} (h : d ≠ .dead) : gip d = .ip d := by cases d <;> first | rfl | exact absurd rfl h
def evD (C : Cx) (st : St) : Operand → D
  | .tmp t => st.s t
  | .const x => cD x
  | .global g => if g < C.gN then gip (C.tab g) else .dead
  | .func f => .fn f .nil

theorem cell_aD : ∀ (xs : List Value) (i : Nat) (hi : i < xs.length), cell (aD xs) i = .v xs[i]
  | x :: xs, 0, _ => by simp [aD, cell, nc]
  | x :: xs, i + 1, hi => by
    have h1 : nc (.v x) = 1 := rfl
    simp only [aD, cell, h1]
    rw [if_neg (by omega)]
    simp only [Nat.add_sub_cancel]
    rw [cell_aD xs i (by simpa using hi)]
    rfl
theorem nc_aD : ∀ xs : List Value, nc (aD xs) = xs.length
  | [] => rfl
  | x :: xs => by
    have h1 : nc (.v x) = 1 := rfl
    simp [aD, nc, nc_aD xs]; omega
theorem RV_of_R1 {R : Value → D → Prop} {x : Value} {d : D} (h : R x d) (hd : match d with | .arr .. | .nil | .cons .. | .tup _ => False | _ => True) : RG R x d := by
  cases d <;> simp_all [RG, RG0]
theorem RV_cD (C : Cx) (w : World) (bs : List (Option Nat)) (x : Value) : RV C w bs x (cD x) := by
  cases x with
  | agg cs =>
    simp only [cD]
    split
    · rename_i hall
      have key : ∀ i (hi : i < cs.size), R1 C w bs cs[i] (cell (aD cs.toList) i) := fun i hi => by
        rw [cell_aD _ _ (by simpa using hi)]
        refine .im ?_
        simp only [Array.getElem_toList]
        exact .v (by simp at hall; exact hall i hi)
      cases hl : cs.toList with
      | nil => exact ⟨cs, rfl, by simpa using congrArg List.length hl⟩
      | cons y ys =>
        rw [hl] at key
        refine ⟨cs, rfl, ?_, key⟩
        have := nc_aD (y :: ys)
        simp only [aD] at this
        rw [this, ← hl]
        simp
    · trivial
  | tuple vs => trivial
  | string s => simp only [cD, B_L]; exact R1.im (.v rfl)
  | _ => exact R1.im (.v rfl)
theorem RV_evD {C : Cx} {st : St} {bs : List (Option Nat)} {a : Act} {w : World} (h : Rel C st bs a w) (x : Operand) : RV C w bs (a.eval x) (evD C st x) := by
  cases x with
  | tmp t => exact h.slots t
  | const v => exact RV_cD C w bs v
  | global g =>
    simp only [evD, Act.eval]
    split
    · rename_i hg
      by_cases hd : C.tab g = .dead
      · rw [hd]
        trivial
      · rw [gip_of hd]
        refine R1.im ((h.wr.g0.2 g hg hd).mono fun b hb => ⟨⟨.inl (h.wr.gl b hb).2, ?_, fun i hi => (h.wr.ok i b hi).2 (h.wr.gl b hb).1⟩, h.wr.fr.block b (h.wr.gl b hb).1⟩)
        exact Nat.lt_of_lt_of_le hb (Nat.le_trans h.wr.g0.1 h.wr.fr.size)
    · trivial
  | func f => exact R1.im (.fn (cs := #[]) rfl (fun i hi => absurd hi (by simp)))

/-- an operation's operands -/
inductive All2 {α β : Type _} (R : α → β → Prop) : List α → List β → Prop
  | nil : All2 R [] []
  | cons {a b as bs} : R a b → All2 R as bs → All2 R (a :: as) (b :: bs)
def argsD (C : Cx) (st : St) (o : Oper) : List D := o.op.operands.toList.map (evD C st)

/-- an operation that hands back what stands for d, and turns nothing -/
def DQ (C : Cx) (o : Oper) (xs : List D) (h : List (Option Bk)) (d : D) : Prop :=
  ∀ bs w (ρ : Operand → Value), WR C h bs w → All2 (fun x d => RV C w bs (ρ x) d) o.op.operands.toList xs →
    Up C.P ((execOp ρ o).run C.P w) fun x w' => WR C h bs w' ∧ Ext C w bs w' bs ∧ RV C w' bs x d
/-- an operation that leads from one state to another -/
def DO (C : Cx) (o : Oper) (st st' : St) : Prop :=
  ∀ bs a w, Rel C st bs a w → Up C.P ((execOp a.eval o).run C.P w) fun x w' => ∃ bs', Rel C st' bs' (a.put o.dst x) w'

def dstB (C : Cx) (o : Oper) : Bool := match o.dst with | some t => decide (t < C.n) | none => true
theorem dstB_spec {C : Cx} {o : Oper} (h : dstB C o = true) : ∀ t, o.dst = some t → t < C.n := by
  intro t ht; simpa [dstB, ht] using h
theorem All2.map {α β γ : Type _} {R : α → β → Prop} {f : γ → α} {g : γ → β} (l : List γ) (h : ∀ x ∈ l, R (f x) (g x)) : All2 (fun x d => R (f x) d) l (l.map g) := by
  induction l with
  | nil => exact .nil
  | cons x l ih => exact .cons (h x (by simp)) (ih fun y hy => h y (by simp [hy]))
theorem Rel.ext {C : Cx} {st : St} {bs bs' : List (Option Nat)} {a : Act} {w w' : World} (h : Rel C st bs a w) (hw : WR C st.h bs' w') (hE : Ext C w bs w' bs') : Rel C st bs' a w' :=
  ⟨h.defers, h.size, fun t => RV.ext hE (h.slots t), hw⟩
theorem DO_of_quiet {C : Cx} {o : Oper} {st : St} {d : D} (hd : dstB C o = true) (h : DQ C o (argsD C st o) st.h d) : DO C o st (st.put o.dst d) := by
  intro bs a w hr
  refine (h bs w a.eval hr.wr (All2.map _ fun x _ => RV_evD hr x)).mono fun x w' ⟨h1, h2, h3⟩ => ⟨bs, ?_⟩
  exact (hr.ext h1 h2).put (dstB_spec hd) h3

def wantD (ops : Array Oper) (st : St) (o : Oper) : Option Bool :=
  match o.guard with
  | none => some true
  | some (g, want) =>
    match (ops[g]?).bind (·.dst) with
    | some t => match st.s t with | .v (.bool b) => some (b == want) | _ => none
    | none => none
theorem wantD_spec {C : Cx} {ops : Array Oper} {st : St} {o : Oper} {bs : List (Option Nat)} {a : Act} {w : World} (h : Rel C st bs a w) {b : Bool} (hb : wantD ops st o = some b) : Region.wanted o (yielded ops a.tmps) = b := by
  unfold wantD at hb
  unfold Region.wanted
  cases hg : o.guard with
  | none => simp [hg] at hb; simp [hb]
  | some p =>
    obtain ⟨g, want⟩ := p
    simp only [hg] at hb ⊢
    unfold yielded
    cases ht : (ops[g]?).bind (·.dst) with
    | none => simp [ht] at hb
    | some t =>
      simp only [ht] at hb
      have hs := h.slots t
      split at hb
      · rename_i c hc
        rw [hc] at hs
        have hs' : R1 C w bs (a.tmps.getD t undef) (.v (.bool c)) := hs
        have : a.tmps.getD t undef = .bool c := by
          generalize a.tmps.getD t undef = y at hs'
          cases hs' with
          | im h => cases h; rfl
        have h2 : a.tmps[t]? = some (.bool c) := by
          rw [Array.getD_eq_getD_getElem?] at this
          cases he : a.tmps[t]? with
          | none => rw [he] at this; simp [undef] at this
          | some y => rw [he] at this; simpa using this
        simp [h2] at hb ⊢
        rw [← hb]
      · cases hb

theorem RV_undef {C : Cx} {w : World} {bs : List (Option Nat)} {x : Value} : RV C w bs x .dead := trivial

/-- a run of operations in the order of the text -/
def DR (C : Cx) (ops : Array Oper) (K : St → Prop) : List Oper → St → Prop
  | [], st => K st
  | o :: rest, st => (wantD ops st o = some true ∧ ∃ st', DO C o st st' ∧ DR C ops K rest st') ∨ (wantD ops st o = some false ∧ dstB C o = true ∧ DR C ops K rest (st.put o.dst .dead))

theorem wpList_of_DR {C : Cx} {ops : Array Oper} {K : St → Prop} {Q : Exit → Act → World → Prop} (hK : ∀ st bs a w, Rel C st bs a w → K st → Q .normal a w) : ∀ (l : List Oper) (st : St) (bs : List (Option Nat)) (a : Act) (w : World),
    Rel C st bs a w → DR C ops K l st → wpList C.P ops Q l a w
  | [], st, bs, a, w, hr, h => hK st bs a w hr h
  | o :: rest, st, bs, a, w, hr, h => by
    unfold wpList
    rcases h with ⟨hw, st', hd, h⟩ | ⟨hw, hd, h⟩
    · rw [if_pos (wantD_spec hr hw)]
      exact .inl ((hd bs a w hr).wp fun x w' ⟨bs', hr'⟩ => wpList_of_DR hK rest st' bs' _ w' hr' h)
    · rw [wantD_spec hr hw]
      simp only [Bool.false_eq_true, if_false]
      exact wpList_of_DR hK rest _ bs _ w (hr.put (dstB_spec hd) RV_undef) h

/-! ### a region that draws its order -/
def dOp (C : Cx) (ops : Array Oper) (i : Nat) (K : St → Prop) (st : St) : Prop :=
  match ops[i]? with
  | none => K st
  | some o => ∃ d, dstB C o = true ∧ ((wantD ops st o = some true ∧ DQ C o (argsD C st o) st.h d) ∨ (wantD ops st o = some false ∧ d = .dead)) ∧ K (st.put o.dst d)
theorem dOp_mono {C : Cx} {ops : Array Oper} {i : Nat} {K K' : St → Prop} {st : St} (hK : ∀ st, K st → K' st) (h : dOp C ops i K st) : dOp C ops i K' st := by
  unfold dOp at *
  split
  · rename_i h0; rw [h0] at h; exact hK _ h
  · rename_i o ho; rw [ho] at h; obtain ⟨d, a, b, c⟩ := h; exact ⟨d, a, b, hK _ c⟩
theorem wpOp_of_dOp {C : Cx} {ops : Array Oper} {i : Nat} {K : St → Prop} {K' : Act → World → Prop} {Q : Exit → Act → World → Prop} {st : St} {bs : List (Option Nat)} {a : Act} {w : World} (hr : Rel C st bs a w)
    (hK : ∀ st a w, Rel C st bs a w → K st → K' a w) (h : dOp C ops i K st) : wpOp C.P ops Q i K' a w := by
  unfold dOp at h
  unfold wpOp
  split
  · rename_i h0; rw [h0] at h; exact hK _ _ _ hr h
  · rename_i o ho
    rw [ho] at h
    obtain ⟨d, hd, h1, h2⟩ := h
    rcases h1 with ⟨hw, hq⟩ | ⟨hw, rfl⟩
    · rw [if_pos (wantD_spec hr hw)]
      refine .inl ((hq bs w a.eval hr.wr (All2.map _ fun x _ => RV_evD hr x)).wp fun x w' ⟨e1, e2, e3⟩ => ?_)
      exact hK _ _ _ ((hr.ext e1 e2).put (dstB_spec hd) e3) h2
    · rw [wantD_spec hr hw]
      simp only [Bool.false_eq_true, if_false]
      exact hK _ _ _ (hr.put (dstB_spec hd) RV_undef) h2

/-- the first operations, in whatever order; then L -/
def dHead (C : Cx) (md : Region.Mode) (ops : Array Oper) (n : Nat) (L : Array Bool → St → Prop) : Nat → Array Bool → St → Prop
  | 0, listed, st => L listed st
  | f + 1, listed, st => Region.ready md ops listed ≠ [] ∧ ∀ i ∈ Region.ready md ops listed, i < n ∧ dOp C ops i (dHead C md ops n L f (listed.setIfInBounds i true)) st
theorem wpAny_of_dHead {C : Cx} {md : Region.Mode} {ops : Array Oper} {n g : Nat} {L : Array Bool → St → Prop} {Q : Exit → Act → World → Prop} {bs : List (Option Nat)}
    (hL : ∀ listed st a w, Rel C st bs a w → L listed st → wpAny C.P md ops Q g listed a w) :
    ∀ (f : Nat) (listed : Array Bool) (st : St) (a : Act) (w : World), Rel C st bs a w → dHead C md ops n L f listed st → wpAny C.P md ops Q (f + g) listed a w
  | 0, listed, st, a, w, hr, h => by rw [Nat.zero_add]; exact hL _ _ _ _ hr h
  | f + 1, listed, st, a, w, hr, h => by
    rw [show f + 1 + g = (f + g) + 1 by omega]
    exact ⟨fun h0 => absurd h0 h.1, fun i hi => wpOp_of_dOp hr (fun st' a' w' hr' h' => wpAny_of_dHead hL f _ st' a' w' hr' h') (h.2 i hi).2⟩

/-- what one operation yields in a state -/
def YD (C : Cx) (ops : Array Oper) (o : Oper) (d : D) (st : St) : Prop :=
  dstB C o = true ∧ ((wantD ops st o = some true ∧ DQ C o (argsD C st o) st.h d) ∨ (wantD ops st o = some false ∧ d = .dead))
theorem YD.dOp {C : Cx} {ops : Array Oper} {i : Nat} {o : Oper} {d : D} {st : St} {K : St → Prop} (hi : ops[i]? = some o) (hy : YD C ops o d st) (h : K (st.put o.dst d)) : dOp C ops i K st := by
  unfold Proofs.YtpibemolnjmgoaaDoor.dOp
  rw [hi]
  exact ⟨d, hy.1, hy.2, h⟩
theorem evD_put {C : Cx} {st : St} {x : Operand} {dst : Option Tmp} {d : D} (h : ∀ t, dst = some t → x ≠ .tmp t) : evD C (st.put dst d) x = evD C st x := by
  cases dst with
  | none => rfl
  | some t =>
    cases x with
    | tmp u => simp only [evD, St.put, upd]; rw [if_neg (fun e => h t rfl (by rw [e]))]
    | _ => rfl
theorem argsD_put {C : Cx} {ops : Array Oper} {o : Oper} {st : St} {dst : Option Tmp} {d : D} (h : ∀ t, dst = some t → t ∉ o.looksAt ops) : argsD C (st.put dst d) o = argsD C st o := by
  unfold argsD
  refine List.map_congr_left fun x hx => evD_put fun t ht e => h t ht ?_
  subst e
  unfold Oper.looksAt
  refine List.mem_append.2 (.inl (List.mem_filterMap.2 ⟨_, hx, rfl⟩))
theorem wantD_put {ops : Array Oper} {o : Oper} {st : St} {dst : Option Tmp} {d : D} (h : ∀ t, dst = some t → t ∉ o.looksAt ops) : wantD ops (st.put dst d) o = wantD ops st o := by
  cases dst with
  | none => rfl
  | some t =>
    unfold wantD
    cases hg : o.guard with
    | none => rfl
    | some p =>
      obtain ⟨g, want⟩ := p
      simp only []
      cases ht : (ops[g]?).bind (·.dst) with
      | none => rfl
      | some u =>
        simp only [St.put, upd]
        rw [if_neg (fun e => h t rfl (by subst e; unfold Oper.looksAt; simp [hg, ht]))]
theorem put_h (st : St) (dst : Option Tmp) (d : D) : (st.put dst d).h = st.h := by cases dst <;> rfl
theorem St.put_comm (st : St) {x y : Option Tmp} (d e : D) (h : ∀ t, x = some t → y ≠ some t) : (st.put x d).put y e = (st.put y e).put x d := by
  cases x with
  | none => rfl
  | some t =>
    cases y with
    | none => rfl
    | some u =>
      have hne : t ≠ u := fun e => h t rfl (by rw [e])
      simp only [St.put, St.mk.injEq, and_true]
      funext i
      simp only [upd]
      by_cases h1 : i = u <;> by_cases h2 : i = t <;> simp_all
theorem YD.put {C : Cx} {ops : Array Oper} {o : Oper} {d : D} {st : St} (hy : YD C ops o d st) {dst : Option Tmp} {e : D} (h : ∀ t, dst = some t → t ∉ o.looksAt ops) : YD C ops o d (st.put dst e) := by
  refine ⟨hy.1, ?_⟩
  rw [wantD_put h, argsD_put h, put_h]
  exact hy.2
theorem YD.unput {C : Cx} {ops : Array Oper} {o : Oper} {d : D} {st : St} {dst : Option Tmp} {e : D} (h : ∀ t, dst = some t → t ∉ o.looksAt ops) (hy : YD C ops o d (st.put dst e)) : YD C ops o d st := by
  refine ⟨hy.1, ?_⟩
  have h2 := hy.2
  rw [wantD_put h, argsD_put h, put_h] at h2
  exact h2
theorem dOp_put {C : Cx} {ops : Array Oper} {j : Nat} {oi oj : Oper} {d : D} (hj : ops[j]? = some oj) (hap : oi.apart ops oj = true) {K : St → Prop} {st : St} (hy : YD C ops oi d st)
    (h : dOp C ops j K (st.put oi.dst d)) : dOp C ops j (fun st' => YD C ops oi d st' ∧ K (st'.put oi.dst d)) st := by
  obtain ⟨h1, h2, h3⟩ := Oper.apart_spec hap
  unfold dOp at *
  rw [hj] at *
  obtain ⟨e, a, b, c⟩ := h
  have hu := YD.unput (C := C) (o := oj) (d := e) (st := st) (dst := oi.dst) (e := d) h1 ⟨a, b⟩
  refine ⟨e, hu.1, hu.2, hy.put h3, ?_⟩
  rw [← St.put_comm st d e h2]
  exact c
theorem dHead_first {C : Cx} {md : Region.Mode} {ops : Array Oper} {n i : Nat} {oi : Oper} {d : D} {L : Array Bool → St → Prop} (hi : ops[i]? = some oi)
    (hs : Region.sinkB md ops n = true) (hc : Region.chainB md ops n = true) (hn : n < ops.size) (hin : i < n)
    (hdone : ∀ listed st, L listed st → ∀ j ∈ Region.ready md ops listed, n ≤ j) :
    ∀ (f : Nat) (listed : Array Bool) (st : St), HeadInv md ops n listed →
      (∀ j oj, ops[j]? = some oj → j ≠ i → listed.getD j true = false → (∀ e ∈ oj.after, Region.binds md e = true → e.on ≠ i) → oi.apart ops oj = true) →
      i ∈ Region.ready md ops listed → YD C ops oi d st →
      dHead C md ops n L f (listed.setIfInBounds i true) (st.put oi.dst d) → dHead C md ops n L (f + 1) listed st := by
  intro f
  induction f with
  | zero =>
    intro listed st inv _ hr hy H
    have hun := (mem_ready.1 hr).1
    refine ⟨fun h => (by rw [h] at hr; cases hr), fun j hj => ?_⟩
    have hjn : j < n := (Nat.lt_or_ge j n).elim id fun h => absurd hj (tail_waits hs hc hn inv _ i rfl hin hun j h)
    refine ⟨hjn, ?_⟩
    by_cases hji : j = i
    · subst hji; exact hy.dOp hi H
    · have := hdone _ _ H j (ready_mono hj hji)
      omega
  | succ f ih =>
    intro listed st inv hfree hr hy H
    have hun := (mem_ready.1 hr).1
    refine ⟨fun h => (by rw [h] at hr; cases hr), fun j hj => ?_⟩
    have hjn : j < n := (Nat.lt_or_ge j n).elim id fun h => absurd hj (tail_waits hs hc hn inv _ i rfl hin hun j h)
    refine ⟨hjn, ?_⟩
    by_cases hji : j = i
    · subst hji; exact hy.dOp hi H
    · have h1 := (H.2 j (ready_mono hj hji)).2
      obtain ⟨hjun, oj, hoj, hall⟩ := mem_ready.1 hj
      have hnot : ∀ e ∈ oj.after, Region.binds md e = true → e.on ≠ i := fun e he hb heq => by
        have h2 := hall e he hb
        rw [heq, getD_both hun] at h2
        cases h2
      have h2 := dOp_put hoj (hfree j oj hoj hji hjun hnot) hy h1
      have hfree' : ∀ k ok, ops[k]? = some ok → k ≠ i → (listed.setIfInBounds j true).getD k true = false →
          (∀ e ∈ ok.after, Region.binds md e = true → e.on ≠ i) → oi.apart ops ok = true := fun k ok hk hki hunk hno => by
        refine hfree k ok hk hki ?_ hno
        by_cases hjk : j = k
        · subst hjk; exact hjun
        · rw [getD_set_ne true hjk] at hunk; exact hunk
      refine dOp_mono (fun st' h3 => ih (listed.setIfInBounds j true) st' (inv.set hj hjn) hfree' (ready_mono hr (Ne.symm hji)) h3.1 ?_) h2
      rw [Array.setIfInBounds_comm _ _ hji]
      exact h3.2

/-- quiet operations in the order of the text -/
def DRq (C : Cx) (ops : Array Oper) (K : St → Prop) : List Oper → St → Prop
  | [], st => K st
  | o :: rest, st => ∃ d, dstB C o = true ∧ ((wantD ops st o = some true ∧ DQ C o (argsD C st o) st.h d) ∨ (wantD ops st o = some false ∧ d = .dead)) ∧ DRq C ops K rest (st.put o.dst d)

theorem dHead_lex {C : Cx} {md : Region.Mode} {ops : Array Oper} {n g : Nat} {Lq : St → Prop} (hs : Region.sinkB md ops n = true) (hc : Region.chainB md ops n = true) (hn : n < ops.size) :
    ∀ (l : List Oper) (k : Nat) (listed : Array Bool) (st : St), (∀ j, j < l.length → l[j]? = ops[k + j]?) → k + l.length = n → HeadInv md ops n listed →
    Region.lexHead md ops g l.length k listed = true → DRq C ops Lq l st →
    dHead C md ops n (fun listed' st' => Region.seqB md ops g n listed' = true ∧ Lq st') l.length listed st
  | [], k, listed, st, _, hk, _, hB, h => by
    have : k = n := by simpa using hk
    subst this
    exact ⟨by simpa [Region.lexHead] using hB, h⟩
  | o :: l, k, listed, st, hl, hk, inv, hB, h => by
    have h0 : ops[k]? = some o := by simpa using (hl 0 (by simp)).symm
    simp only [List.length_cons, Region.lexHead, Bool.and_eq_true] at hB
    obtain ⟨⟨hr, hf⟩, hB'⟩ := hB
    have hkn : k < n := by simp only [List.length_cons] at hk; omega
    have hr' : k ∈ Region.ready md ops listed := by simpa using hr
    obtain ⟨d, h1, h2, hK⟩ := h
    exact dHead_first h0 hs hc hn hkn (fun listed' a' hL => seqB_ready hL.1) l.length listed st inv (Region.free_spec h0 hf) hr' ⟨h1, h2⟩
      (dHead_lex hs hc hn l (k + 1) _ _ (fun j hj => by have := hl (j + 1) (by simp; omega); simpa [Nat.add_assoc, Nat.add_comm 1 j] using this) (by simp only [List.length_cons] at hk; omega) (inv.set hr' hkn) hB' hK)

theorem Rel.drew {C : Cx} {st : St} {bs : List (Option Nat)} {a : Act} {w : World} (h : Rel C st bs a w) : Rel C st bs a { w with drawn := w.drawn + 1 } := by
  have hE : Ext C w bs { w with drawn := w.drawn + 1 } bs := ext_im h.wr (Nat.le_refl _) fun _ _ => rfl
  refine h.ext ⟨h.wr.len, h.wr.inj, h.wr.ok, fun i k hk => ?_, ?_, h.wr.gl, h.wr.g0, h.wr.tok, h.wr.mix, h.wr.s0, h.wr.fix⟩ hE
  · rcases h.wr.blk i k hk with ⟨b, hb, hB⟩ | h0
    · exact .inl ⟨b, hb, hB.ext hE rfl⟩
    · exact .inr h0
  · have := h.wr.fr
    exact ⟨this.os, this.tape, this.output, this.size, this.block⟩

/-! ### a region all of whose operations are quiet -/
def dAny (C : Cx) (md : Region.Mode) (ops : Array Oper) (Q : St → Prop) : Nat → Array Bool → St → Prop
  | 0, listed, st => Region.ready md ops listed = [] ∧ Q st
  | f + 1, listed, st => (Region.ready md ops listed = [] → Q st) ∧ ∀ i ∈ Region.ready md ops listed, dOp C ops i (dAny C md ops Q f (listed.setIfInBounds i true)) st
theorem wpAny_of_dAny {C : Cx} {md : Region.Mode} {ops : Array Oper} {K : St → Prop} {Q : Exit → Act → World → Prop} {bs : List (Option Nat)} (hK : ∀ st a w, Rel C st bs a w → K st → Q .normal a w) :
    ∀ (f : Nat) (listed : Array Bool) (st : St) (a : Act) (w : World), Rel C st bs a w → dAny C md ops K f listed st → wpAny C.P md ops Q f listed a w
  | 0, _, _, _, _, hr, h => ⟨h.1, hK _ _ _ hr h.2⟩
  | f + 1, _, _, _, _, hr, h => ⟨fun h0 => hK _ _ _ hr (h.1 h0), fun i hi => wpOp_of_dOp hr (fun st' a' w' hr' h' => wpAny_of_dAny hK f _ st' a' w' hr' h') (h.2 i hi)⟩
theorem dAny_first {C : Cx} {md : Region.Mode} {ops : Array Oper} {i : Nat} {oi : Oper} {d : D} {K : St → Prop} (hi : ops[i]? = some oi) :
    ∀ (f : Nat) (listed : Array Bool) (st : St),
      (∀ j oj, ops[j]? = some oj → j ≠ i → listed.getD j true = false → (∀ e ∈ oj.after, Region.binds md e = true → e.on ≠ i) → oi.apart ops oj = true) →
      i ∈ Region.ready md ops listed → YD C ops oi d st →
      dAny C md ops K f (listed.setIfInBounds i true) (st.put oi.dst d) → dAny C md ops K (f + 1) listed st := by
  intro f
  induction f with
  | zero =>
    intro listed st _ hr hy H
    refine ⟨fun h => (by rw [h] at hr; cases hr), fun j hj => ?_⟩
    by_cases hji : j = i
    · subst hji; exact hy.dOp hi H
    · have := ready_mono hj hji
      rw [H.1] at this
      cases this
  | succ f ih =>
    intro listed st hfree hr hy H
    have hun := (mem_ready.1 hr).1
    refine ⟨fun h => (by rw [h] at hr; cases hr), fun j hj => ?_⟩
    by_cases hji : j = i
    · subst hji; exact hy.dOp hi H
    · have h1 := H.2 j (ready_mono hj hji)
      obtain ⟨hjun, oj, hoj, hall⟩ := mem_ready.1 hj
      have hnot : ∀ e ∈ oj.after, Region.binds md e = true → e.on ≠ i := fun e he hb heq => by
        have h2 := hall e he hb
        rw [heq, getD_both hun] at h2
        cases h2
      have h2 := dOp_put hoj (hfree j oj hoj hji hjun hnot) hy h1
      have hfree' : ∀ k ok, ops[k]? = some ok → k ≠ i → (listed.setIfInBounds j true).getD k true = false →
          (∀ e ∈ ok.after, Region.binds md e = true → e.on ≠ i) → oi.apart ops ok = true := fun k ok hk hki hunk hno => by
        refine hfree k ok hk hki ?_ hno
        by_cases hjk : j = k
        · subst hjk; exact hjun
        · rw [getD_set_ne true hjk] at hunk; exact hunk
      refine dOp_mono (fun st' h3 => ih (listed.setIfInBounds j true) st' hfree' (ready_mono hr (Ne.symm hji)) h3.1 ?_) h2
      rw [Array.setIfInBounds_comm _ _ hji]
      exact h3.2
theorem dAny_lex {C : Cx} {md : Region.Mode} {ops : Array Oper} {K : St → Prop} : ∀ (l : List Oper) (k : Nat) (listed : Array Bool) (st : St), (∀ j, l[j]? = ops[k + j]?) →
    Region.lexFrom md ops l.length k listed = true → DRq C ops K l st → dAny C md ops K l.length listed st
  | [], _, _, _, _, hB, h => ⟨by simpa [Region.lexFrom] using hB, h⟩
  | o :: l, k, listed, st, hl, hB, h => by
    have h0 : ops[k]? = some o := by simpa using (hl 0).symm
    simp only [List.length_cons, Region.lexFrom, Bool.and_eq_true] at hB
    obtain ⟨⟨hr, hf⟩, hB'⟩ := hB
    obtain ⟨d, h1, h2, hK⟩ := h
    exact dAny_first h0 l.length listed st (Region.free_spec h0 hf) (by simpa using hr) ⟨h1, h2⟩
      (dAny_lex l (k + 1) _ _ (fun j => by have := hl (j + 1); simpa [Nat.add_assoc, Nat.add_comm 1 j] using this) hB' hK)
theorem wp_region_dquiet {C : Cx} {id : Nat} {Q : Exit → Act → World → Prop} {l : List Oper} {K : St → Prop} (hB : Region.lexB .any l.toArray = true)
    (hK : ∀ st bs a w, Rel C st bs a w → K st → Q .normal a w) {st : St} {bs : List (Option Nat)} {a : Act} {w : World} (hr : Rel C st bs a w)
    (h : DRq C l.toArray K l st) : (Code.region id l.toArray true).wp C.P Q a w := by
  simp only [Region.lexB, Bool.and_eq_true] at hB
  refine wp_region_any hr.wr.mix ?_
  have H := dAny_lex (C := C) (md := .any) (ops := l.toArray) l 0 (Array.replicate l.toArray.size false) st (by simp) (by simpa using hB.2) h
  have := wpAny_of_dAny (Q := Q) (bs := bs) (fun st a w h1 h2 => hK st bs a w h1 h2) _ _ st a _ hr.drew H
  simpa using this

theorem wp_region_dtail {C : Cx} {id : Nat} {Q : Exit → Act → World → Prop} {l : List Oper} (n : Nat) {K : St → Prop} (hB : Region.lexTailB .any l.toArray n = true)
    (hK : ∀ st bs a w, Rel C st bs a w → K st → Q .normal a w) {st : St} {bs : List (Option Nat)} {a : Act} {w : World} (hr : Rel C st bs a w)
    (h : DRq C l.toArray (fun st' => DR C l.toArray K (l.drop n) st') (l.take n) st) : (Code.region id l.toArray true).wp C.P Q a w := by
  simp only [Region.lexTailB, Bool.and_eq_true, decide_eq_true_eq] at hB
  obtain ⟨⟨⟨⟨hsel, hn⟩, hs⟩, hc⟩, hlex⟩ := hB
  have hn' : n < l.length := by simpa using hn
  have htl : (l.take n).length = n := by simp; omega
  have hdl : (l.drop n).length = l.toArray.size - n := by simp
  have inv0 : HeadInv .any l.toArray n (Array.replicate l.toArray.size false) :=
    ⟨by simp, fun j oj _ hl => (by rw [getD_replicate_false] at hl; cases hl), fun t _ ht => getD_in (by simpa using ht) (getD_replicate_false _ _)⟩
  have H := dHead_lex (md := .any) (g := l.toArray.size - n) hs hc hn (l.take n) 0 _ st (fun j hj => by
    have hj' : j < n := by rw [htl] at hj; exact hj
    simp [hj']) (by simpa using htl) inv0 (by rw [htl]; exact hlex) h
  refine wp_region_any hr.wr.mix ?_
  have := wpAny_of_dHead (Q := Q) (bs := bs) (g := l.toArray.size - n) (fun listed st' a' w' hr' hL => by
    have := wpAny_of_seq (md := .any) (Q' := Q) (l.drop n) n listed a' w' (fun j => by simp [List.getElem?_drop]) (by rw [hdl]; exact hL.1) (wpList_of_DR hK _ st' bs a' w' hr' hL.2)
    rwa [hdl] at this) _ _ _ _ _ hr.drew H
  rw [htl, show n + (l.toArray.size - n) = l.toArray.size by omega] at this
  exact this
end Go.Proofs.YtpibemolnjmgoaaDoor
