/- One step of a walk, by computing. It speaks of no program of ours. -/
import Derived.Test.YtpibemolnjmgoaaDoorDt
namespace Go.Proofs.YtpibemolnjmgoaaDoor
set_option linter.unusedSimpArgs false
set_option linter.unusedVariables false
open Go.RowKit

theorem rng0 : List.range 0 = [] := rfl
theorem rng1 : List.range 1 = [0] := rfl
theorem rng2 : List.range 2 = [0, 1] := rfl
theorem rng3 : List.range 3 = [0, 1, 2] := rfl
theorem rng4 : List.range 4 = [0, 1, 2, 3] := rfl
theorem rng5 : List.range 5 = [0, 1, 2, 3, 4] := rfl
theorem rng6 : List.range 6 = [0, 1, 2, 3, 4, 5] := rfl
theorem rng7 : List.range 7 = [0, 1, 2, 3, 4, 5, 6] := rfl
theorem rng8 : List.range 8 = [0, 1, 2, 3, 4, 5, 6, 7] := rfl
def nilF : D → Option (Prop × D)
  | .ip d => some (True, .ip d)
  | .ptr l o => some (True, .ptr l o)
  | .fn f c => some (True, .fn f c)
  | _ => none
def callQ (T : Nat → Option TE) (cal : Callee) (n : List Operand) (ts : List TypeId) (xs : List D) : Option (Prop × D) :=
  match cal, n, ts, xs with
  | .builtin .len, [_], [t], [a] => lenF T t a
  | _, _, _, _ => none
def dqF (T : Nat → Option TE) (h : List (Option Bk)) (op : Op) (xs : List D) : Option (Prop × D) :=
  match op with
  | .move _ => match xs with | [d] => some (True, d) | _ => none
  | .assign _ => match xs with | [d] => some (True, d) | _ => none
  | .pick _ _ _ => match xs with | [.v (.bool c), d, e] => some (True, if c then d else e) | _ => none
  | .nilCheck _ => match xs with | [d] => nilF d | _ => none
  | .binOp op t _ _ _ => match xs with | [a, b] => binF T op t a b | _ => none
  | .unOp op _ _ => match xs with | [.v u] => unF op u | _ => none
  | .convert s t _ => match xs with | [a] => convF T h s t a | _ => none
  | .load t _ => match xs with | [a] => loadF T h t a | _ => none
  | .field s _ f => match xs with | [a] => fieldF T s f a | _ => none
  | .fieldAddr s _ f => match xs with | [a] => faddrF T s f a | _ => none
  | .index t _ _ => match xs with | [a, b] => indexF T t a b | _ => none
  | .indexAddr t _ _ => match xs with | [a, b] => iaddrF T t a b | _ => none
  | .slice t _ lo hi none => sliceF T t lo.isSome hi.isSome xs
  | .extract _ n => match xs with | [.tup ps] => (match tnth ps n with | some d => some (True, d) | none => none) | _ => none
  | .makeFunc (.func f) first _ => if first.toList.isEmpty && xs.all scB then some (True, .fn f (listD xs)) else none
  | .build t parts => buildF T t (parts.toList.map (·.1)) xs
  | .buildSlice t len parts => bslF T t len (parts.toList.map (·.1)) xs
  | .call c => callQ T c.callee c.args.toList c.argTypes.toList xs
  | _ => none
theorem DQ_F {C : Cx} {o : Oper} {xs : List D} {h : List (Option Bk)} {p : Prop} {d : D} (e : dqF C.T h o.op xs = some (p, d)) (hp : p) : DQ C o xs h d := by
  cases ho : o.op <;> rw [ho] at e <;> simp only [dqF] at e <;> try (cases e; done)
  case move x => split at e <;> first | (simp only [Option.some.injEq, Prod.mk.injEq] at e; obtain ⟨_, rfl⟩ := e; exact DQ_move (.inl ho)) | cases e
  case assign x => split at e <;> first | (simp only [Option.some.injEq, Prod.mk.injEq] at e; obtain ⟨_, rfl⟩ := e; exact DQ_move (.inr ho)) | cases e
  case pick a b c => split at e <;> first | (simp only [Option.some.injEq, Prod.mk.injEq] at e; obtain ⟨_, rfl⟩ := e; exact DQ_pick ho) | cases e
  case nilCheck x =>
    split at e
    · rename_i d0
      cases d0 <;> simp only [nilF, Option.some.injEq, Prod.mk.injEq, reduceCtorEq] at e <;> obtain ⟨_, rfl⟩ := e <;> exact DQ_nilCheck ho trivial
    · cases e
  case binOp => split at e <;> first | exact DQ_bin ho e hp | cases e
  case unOp => split at e <;> first | exact DQ_unOp ho e hp | cases e
  case convert => split at e <;> first | exact DQ_conv ho e hp | cases e
  case load => split at e <;> first | exact DQ_load ho e hp | cases e
  case field => split at e <;> first | exact DQ_field ho e hp | cases e
  case fieldAddr => split at e <;> first | exact DQ_faddr ho e hp | cases e
  case index => split at e <;> first | exact DQ_index ho e hp | cases e
  case indexAddr => split at e <;> first | exact DQ_iaddr ho e hp | cases e
  case slice t x lo hi mx =>
    cases mx with
    | none => exact DQ_slice ho e hp
    | some m => cases e
  case extract =>
    split at e
    · split at e
      · rename_i hn
        simp only [Option.some.injEq, Prod.mk.injEq] at e
        obtain ⟨_, rfl⟩ := e
        exact DQ_extract ho hn
      · cases e
    · cases e
  case makeFunc f first caps =>
    cases f <;> simp only at e <;> try (cases e; done)
    split at e
    · rename_i hc
      simp only [Bool.and_eq_true, List.isEmpty_iff] at hc
      simp only [Option.some.injEq, Prod.mk.injEq] at e
      obtain ⟨_, rfl⟩ := e
      have : first = #[] := by obtain ⟨l⟩ := first; simp at hc; simp [hc.1]
      subst this
      exact DQ_makeFunc ho hc.2
    · cases e
  case build t parts => exact DQ_build ho e hp
  case buildSlice t len parts => exact DQ_bsl ho e
  case call c =>
    obtain ⟨cal, ⟨args⟩, ⟨ts⟩⟩ := c
    simp only at e
    unfold callQ at e
    split at e
    · exact DQ_len ho e
    · cases e

/-! ### steps -/
theorem DR_q {C : Cx} {ops : Array Oper} {K : St → Prop} {o : Oper} {rest : List Oper} {s : Nat → D} {h : List (Option Bk)} {p : Prop} {d : D} (t : Nat) (hg : o.guard = none) (hd : o.dst = some t) (ht' : Nat.blt t C.n = true) (e : dqF C.T h o.op (argsD C ⟨s, h⟩ o) = some (p, d)) (hp : p)
    (k : DR C ops K rest ⟨upd s t d, h⟩) : DR C ops K (o :: rest) ⟨s, h⟩ := by
  have ht : t < C.n := by simpa using ht'
  refine .inl ⟨by simp [wantD, hg], _, DO_of_quiet (by simp [dstB, hd, ht]) (DQ_F e hp), ?_⟩
  simp only [St.put, hd]
  exact k
theorem DRq_q {C : Cx} {ops : Array Oper} {K : St → Prop} {o : Oper} {rest : List Oper} {s : Nat → D} {h : List (Option Bk)} {p : Prop} {d : D} (t : Nat) (hg : o.guard = none) (hd : o.dst = some t) (ht' : Nat.blt t C.n = true) (e : dqF C.T h o.op (argsD C ⟨s, h⟩ o) = some (p, d)) (hp : p)
    (k : DRq C ops K rest ⟨upd s t d, h⟩) : DRq C ops K (o :: rest) ⟨s, h⟩ := by
  have ht : t < C.n := by simpa using ht'
  refine ⟨d, by simp [dstB, hd, ht], .inl ⟨by simp [wantD, hg], DQ_F e hp⟩, ?_⟩
  simp only [St.put, hd]
  exact k
theorem DR_c {C : Cx} {ops : Array Oper} {K : St → Prop} {o : Oper} {rest : List Oper} {s : Nat → D} {h : List (Option Bk)} {d : D} (t : Nat) (hg : o.guard = none) (hd : o.dst = some t) (ht' : Nat.blt t C.n = true) {xs : List D} (e : argsD C ⟨s, h⟩ o = xs) (hq : DQ C o xs h d)
    (k : DR C ops K rest ⟨upd s t d, h⟩) : DR C ops K (o :: rest) ⟨s, h⟩ := by
  have ht : t < C.n := by simpa using ht'
  refine .inl ⟨by simp [wantD, hg], _, DO_of_quiet (by simp [dstB, hd, ht]) (by rw [e]; exact hq), ?_⟩
  simp only [St.put, hd]
  exact k
theorem DRq_c {C : Cx} {ops : Array Oper} {K : St → Prop} {o : Oper} {rest : List Oper} {s : Nat → D} {h : List (Option Bk)} {d : D} (t : Nat) (hg : o.guard = none) (hd : o.dst = some t) (ht' : Nat.blt t C.n = true) {xs : List D} (e : argsD C ⟨s, h⟩ o = xs) (hq : DQ C o xs h d)
    (k : DRq C ops K rest ⟨upd s t d, h⟩) : DRq C ops K (o :: rest) ⟨s, h⟩ := by
  have ht : t < C.n := by simpa using ht'
  refine ⟨d, by simp [dstB, hd, ht], .inl ⟨by simp [wantD, hg], by rw [e]; exact hq⟩, ?_⟩
  simp only [St.put, hd]
  exact k
theorem DR_nil {C : Cx} {ops : Array Oper} {K : St → Prop} {st : St} (k : K st) : DR C ops K [] st := k
theorem DRq_nil {C : Cx} {ops : Array Oper} {K : St → Prop} {st : St} (k : K st) : DRq C ops K [] st := k
theorem DW_reg {C : Cx} {id : Nat} {ops : List Oper} {Q : Exit → St → Prop} {l : List (Nat × D)} {h : List (Option Bk)} (k : DR C ops.toArray (Q .normal) ops ⟨look l, h⟩) : DW C (.region id ops.toArray false) Q (mk l h) := DW_region (show DR C ops.toArray (Q .normal) ops.toArray.toList ⟨look l, h⟩ by rw [List.toList_toArray]; exact k)
theorem DW_drw {C : Cx} {id : Nat} {ops : List Oper} {Q : Exit → St → Prop} {l : List (Nat × D)} {h : List (Option Bk)} (n : Nat) (hB : Region.lexTailB .any ops.toArray n = true) (k : DRq C ops.toArray (fun st' => DR C ops.toArray (Q .normal) (ops.drop n) st') (ops.take n) ⟨look l, h⟩) : DW C (.region id ops.toArray true) Q (mk l h) := DW_draw n hB k
theorem All2.reflP {α : Type _} {R : α → α → Prop} : ∀ {l : List α}, (∀ x ∈ l, R x x) → All2 R l l
  | [], _ => .nil
  | x :: l, h => .cons (h x (by simp)) (All2.reflP fun y hy => h y (by simp [hy]))
/-- a call of a function by its name, whose arguments lead to no own block -/
theorem DQ_call1 {E : Env} {C : Cx} (hE : EnvC E C) {o : Oper} {h : List (Option Bk)} {f : FuncId} {g : Operand} {args : Array Operand} {ts : Array TypeId} {xs : List D} {d : D} (ho : o.op = .call { callee := .value g, args := args, argTypes := ts }) (hf : fnB C.P f = true) (hx : xs.all pureD = true) (hc : PC E f xs d) : DQ C o (.fn f .nil :: xs) h d :=
  DQ_call hE (cs := []) (ys := xs) ho hf rfl (by rw [List.append_nil]; exact All2.reflP fun x hx' => LeP.refl (List.all_eq_true.1 hx x hx')) hc
theorem DW_drwq {C : Cx} {id : Nat} {ops : List Oper} {Q : Exit → St → Prop} {l : List (Nat × D)} {h : List (Option Bk)} (hB : Region.lexB .any ops.toArray = true) (k : DRq C ops.toArray (Q .normal) ops ⟨look l, h⟩) : DW C (.region id ops.toArray true) Q (mk l h) := fun bs a w hr =>
  wp_region_dquiet (Q := fun e a' w' => ∃ st' bs', Rel C st' bs' a' w' ∧ Q e st') hB (fun st bs a w h1 h2 => ⟨st, bs, h1, h2⟩) hr k
/-- keep what is needed -/
theorem DW_drop {C : Cx} {c : Code} {Q : Exit → St → Prop} {s : Nat → D} {h : List (Option Bk)} (live : List Nat) {l : List (Nat × D)} (e : pick s live = l) (k : DW C c Q (mk l h)) : DW C c Q ⟨s, h⟩ := DW_keep live e rfl k
end Go.Proofs.YtpibemolnjmgoaaDoor
