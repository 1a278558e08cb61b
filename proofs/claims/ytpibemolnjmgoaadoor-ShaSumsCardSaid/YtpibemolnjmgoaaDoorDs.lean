/- Steps that turn the state; what may be forgotten. It speaks of no program of ours. -/
import Derived.Test.YtpibemolnjmgoaaDoorNum
namespace Go.Proofs.YtpibemolnjmgoaaDoor
set_option linter.unusedSimpArgs false
set_option linter.unusedVariables false
open Go.RowKit

theorem DR_e {C : Cx} {ops : Array Oper} {K : St → Prop} {o : Oper} {rest : List Oper} {st st' st'' : St} (hg : o.guard = none) (hD : DO C o st st') (e : st' = st'') (k : DR C ops K rest st'') : DR C ops K (o :: rest) st := by
  subst e
  exact .inl ⟨by simp [wantD, hg], _, hD, k⟩
theorem DO_append2 {C : Cx} {o : Oper} {st : St} {s x : Operand} {t u el sz l n : Nat} {e : TE} {L es : List D} {p : Prop} (ho : o.op = .call { callee := .builtin .append, args := #[s, x], argTypes := #[t, u] }) (hd : dstB C o = true) (hT : appT C t u el sz e) (hfx : C.fx l = none)
    (hs : evD C st s = .own l n el sz) (hl : st.h[l]? = some (some (.row L el sz))) (hx : srcD st.h (evD C st x) = some (p, es)) (hn : n = L.length) (hp : p) (hpure : ∀ d ∈ es, pureD d = true ∧ nc d = sz) (hb : (L.length + es.length) * e.bytes ≤ 140737488355328) :
    DO C o st (St.put ⟨fun t => kil l (st.s t), (kilH l st.h).set l (some (.row (L ++ es) el sz))⟩ o.dst (.own l (n + es.length) el sz)) := by
  subst hn
  exact DO_append ho hd hT hfx hs hl hx hp hpure hb
/-- what stands in a slot may be said otherwise -/
theorem Weak.of {C : Cx} {s s' : Nat → D} {h : List (Option Bk)} (hs : ∀ t (bs : List (Option Nat)) w x, WR C h bs w → RV C w bs x (s t) → RV C w bs x (s' t)) : Weak C ⟨s, h⟩ ⟨s', h⟩ := fun bs a w hr =>
  ⟨bs, hr.defers, hr.size, fun t => hs t bs w _ hr.wr (hr.slots t), hr.wr⟩
/-- nil as an own row without elements -/
theorem Weak.nil_own {C : Cx} {l : List (Nat × D)} {h : List (Option Bk)} (t T sz : Nat) (ht : look l t = .v (.slice none 0 0)) : Weak C (mk l h) (mk ((t, .own h.length 0 T sz) :: l) (h ++ [some (.row [] T sz)])) := fun bs a w hr => by
  obtain ⟨w1, w2⟩ := hr.wr.more (ob := none) (k := .row [] T sz) (Nat.le_refl _) rfl rfl rfl (fun _ _ => rfl) (by simp) (fun _ => .inr ⟨_, _, rfl, rfl⟩)
  refine ⟨_, hr.defers, hr.size, fun i => ?_, w1⟩
  simp only [mk, look]
  split
  · rename_i e
    subst e
    have := hr.slots i
    simp only [mk, ht] at this
    have hx := (RV_v this).1
    rw [hx]
    exact RVo R1.own0
  · exact RV.ext w2 (hr.slots i)
/-- no own block from k on -/
def ltB (k : Nat) : D → Bool
  | .ptr l _ => Nat.blt l k
  | .own l _ _ _ => Nat.blt l k
  | .osl l _ _ => Nat.blt l k
  | .cons h t => ltB k h && ltB k t
  | .tup ps => ltB k ps
  | .fn _ caps => ltB k caps
  | _ => true
def ltBk (k : Nat) : Option Bk → Bool
  | some (.one d) => ltB k d
  | _ => true
theorem Fin_arr {h : List (Option Bk)} {k : IntKind} {n : Nat} {f g : Nat → Int} (hfg : ∀ i, i < n → f i = g i) : Fin h (.arr k n f) (.arr k n g) := by
  intro C w bs x hS hw hx
  obtain ⟨cs, e1, e2, e3⟩ := hx
  refine ⟨cs, e1, e2, fun i hi => ?_⟩
  have h1 := (e3 i hi).pure rfl
  simp only [cell] at h1 ⊢
  rw [← hfg i (by omega)]
  exact h1.mono fun b hb => ⟨⟨hb.1, hb.2.1⟩, rfl⟩
theorem lt_cell {k : Nat} {d : D} (h : ltB k d = true) : ∀ i, ltB k (cell d i) = true := by
  induction d with
  | cons a b ih1 ih2 =>
    intro i
    simp only [ltB, Bool.and_eq_true] at h
    simp only [cell]
    split
    · exact ih1 h.1 i
    · exact ih2 h.2 _
  | arr => intro i; rfl
  | nil => intro i; rfl
  | v => intro i; rfl
  | sl => intro i; rfl
  | ip => intro i; rfl
  | dead => intro i; rfl
  | tup => intro i; exact h
  | ptr => intro i; exact h
  | own => intro i; exact h
  | osl => intro i; exact h
  | fn => intro i; exact h
theorem Sf_take {C : Cx} {w : World} {bs : List (Option Nat)} {k b : Nat} (h : Sf C w bs b) : Sf C w (bs.take k) b :=
  ⟨h.1, h.2.1, fun i hi => by
    rw [List.getElem?_take] at hi
    split at hi
    · exact h.2.2 i hi
    · cases hi⟩
theorem R1.take {C : Cx} {w : World} {bs : List (Option Nat)} {k : Nat} {x : Value} {d : D} (h : R1 C w bs x d) (hd : ltB k d = true) : R1 C w (bs.take k) x d := by
  induction h with
  | im h => exact .im (h.mono fun b hb => ⟨Sf_take hb, rfl⟩)
  | ptr h => exact .ptr (by rw [List.getElem?_take, if_pos (by simpa [ltB] using hd)]; exact h)
  | own h hs hn hc => exact .own (by rw [List.getElem?_take, if_pos (by simpa [ltB] using hd)]; exact h) hs hn hc
  | own0 => exact .own0
  | osl0 => exact .osl0
  | osl h hn => exact .osl (by rw [List.getElem?_take, if_pos (by simpa [ltB] using hd)]; exact h) hn
  | fn hn h ih => exact .fn hn fun i hi => ih i hi (lt_cell (by simpa [ltB] using hd) i)
theorem RG0.take {C : Cx} {w : World} {bs : List (Option Nat)} {k : Nat} {x : Value} {d : D} (h : RG0 (R1 C w bs) x d) (hd : ltB k d = true) : RG0 (R1 C w (bs.take k)) x d :=
  h.imp fun x i hx => hx.take (lt_cell hd i)
theorem TG.take {C : Cx} {w : World} {bs : List (Option Nat)} {k : Nat} : ∀ {d : D} {vs : List Value}, TG (R1 C w bs) vs d → ltB k d = true → TG (R1 C w (bs.take k)) vs d
  | .nil, [], _, _ => trivial
  | .cons _ _, _ :: _, h, hd => by
    simp only [ltB, Bool.and_eq_true] at hd
    exact ⟨h.1.take hd.1, TG.take h.2 hd.2⟩
  | .cons _ _, [], h, _ => h.elim
  | .nil, _ :: _, h, _ => h.elim
  | .v _, [], h, _ => h.elim
  | .v _, _ :: _, h, _ => h.elim
  | .arr .., [], h, _ => h.elim
  | .arr .., _ :: _, h, _ => h.elim
  | .tup _, [], h, _ => h.elim
  | .tup _, _ :: _, h, _ => h.elim
  | .sl .., [], h, _ => h.elim
  | .sl .., _ :: _, h, _ => h.elim
  | .ip _, [], h, _ => h.elim
  | .ip _, _ :: _, h, _ => h.elim
  | .ptr .., [], h, _ => h.elim
  | .ptr .., _ :: _, h, _ => h.elim
  | .own .., [], h, _ => h.elim
  | .own .., _ :: _, h, _ => h.elim
  | .osl .., [], h, _ => h.elim
  | .osl .., _ :: _, h, _ => h.elim
  | .fn .., [], h, _ => h.elim
  | .fn .., _ :: _, h, _ => h.elim
  | .dead, [], h, _ => h.elim
  | .dead, _ :: _, h, _ => h.elim
theorem RV.take {C : Cx} {w : World} {bs : List (Option Nat)} {k : Nat} {x : Value} {d : D} (h : RV C w bs x d) (hd : ltB k d = true) : RV C w (bs.take k) x d := by
  cases d with
  | tup ps => obtain ⟨vs, a, b⟩ := h; exact ⟨vs, a, b.take (by simpa [ltB] using hd)⟩
  | _ => simp only [RV, RG] at h ⊢; exact h.take hd
theorem look_all {k : Nat} : ∀ {l : List (Nat × D)}, l.all (fun p => ltB k p.2) = true → ∀ t, ltB k (look l t) = true
  | [], _, _ => rfl
  | (i, d) :: l, h, t => by
    simp only [List.all_cons, Bool.and_eq_true] at h
    simp only [look]
    split
    · exact h.1
    · exact look_all h.2 t
/-- own blocks from k on are forgotten -/
theorem Weak.take {C : Cx} {l : List (Nat × D)} {h : List (Option Bk)} (k : Nat) (hfx : ∀ i b, C.fx i = some b → i < k) (hs : l.all (fun p => ltB k p.2) = true) (hb : (h.take k).all (ltBk k) = true) : Weak C (mk l h) (mk l (h.take k)) := fun bs a w hr => by
  have hw := hr.wr
  refine ⟨bs.take k, hr.defers, hr.size, fun t => (hr.slots t).take (look_all hs t), ⟨by simp [hw.len, mk], fun i j b hi hj => ?_, fun i b hi => ?_, fun i kk hk => ?_, hw.fr, hw.gl, hw.g0, hw.tok, hw.mix, hw.s0, fun i b hi => ?_⟩⟩
  · rw [List.getElem?_take] at hi hj
    split at hi <;> split at hj <;> first | exact hw.inj i j b hi hj | (cases hi; done) | (cases hj; done)
  · rw [List.getElem?_take] at hi
    split at hi
    · exact hw.ok i b hi
    · cases hi
  · have hk0 := hk
    simp only [mk] at hk
    rw [List.getElem?_take] at hk
    split at hk
    · rename_i hik
      have hlt : ltBk k (some kk) = true := by
        have := List.all_eq_true.1 hb (some kk) (List.mem_of_getElem? hk0)
        exact this
      rcases hw.blk i kk hk with ⟨b, h1, h2⟩ | ⟨T, sz, h1, h2⟩
      · refine .inl ⟨b, by rw [List.getElem?_take, if_pos hik]; exact h1, ?_⟩
        cases kk with
        | one d =>
          obtain ⟨cs, T, fz, e1, e2, e3, e4⟩ := h2
          exact ⟨cs, T, fz, e1, e2, e3, fun i hi => (e4 i hi).take (lt_cell (by simpa [ltBk] using hlt) i)⟩
        | row L T sz =>
          obtain ⟨cs, fz, e1, e2, e3, e4, e5⟩ := h2
          refine ⟨cs, fz, e1, e2, e3, e4, fun i j hi hj => ?_⟩
          obtain ⟨x, hx, hr'⟩ := e5 i j hi hj
          exact ⟨x, hx, hr'.mono fun b hb' => ⟨Sf_take hb', rfl⟩⟩
      · exact .inr ⟨T, sz, h1, by rw [List.getElem?_take, if_pos hik]; exact h2⟩
    · cases hk
  · have := hfx i b hi
    rw [List.getElem?_take, if_pos this]
    exact hw.fix i b hi
/-- an own array may be said otherwise -/
theorem Weak.arr {C : Cx} {l : List (Nat × D)} {h : List (Option Bk)} (p : Nat) {k : IntKind} {n : Nat} {f g : Nat → Int} (hp : h[p]? = some (some (.one (.arr k n f)))) (hfg : ∀ i, i < n → f i = g i) : Weak C (mk l h) (mk l (h.set p (some (.one (.arr k n g))))) := fun bs a w hr => by
  have hw := hr.wr
  refine ⟨bs, hr.defers, hr.size, hr.slots, ⟨by simp [hw.len, mk], hw.inj, hw.ok, fun i kk hk => ?_, hw.fr, hw.gl, hw.g0, hw.tok, hw.mix, hw.s0, hw.fix⟩⟩
  simp only [mk] at hk
  rw [List.getElem?_set] at hk
  split at hk
  · rename_i e
    subst e
    split at hk
    · simp at hk
      subst hk
      rcases hw.blk p _ hp with ⟨b, h1, cs, T, fz, e1, e2, e3, e4⟩ | ⟨T, sz, h1, _⟩
      · refine .inl ⟨b, h1, cs, T, fz, e1, e2, e3, fun i hi => ?_⟩
        have := e4 i hi
        simp only [cell] at this ⊢
        rw [← hfg i (by have : cs.size = n := e2; omega)]
        exact this
      · cases h1
    · cases hk
  · exact hw.blk i kk hk
end Go.Proofs.YtpibemolnjmgoaaDoor
