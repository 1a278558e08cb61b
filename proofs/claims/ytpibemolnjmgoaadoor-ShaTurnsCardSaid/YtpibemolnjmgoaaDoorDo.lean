/- Control, calls, functions. It speaks of no program of ours. -/
import Derived.Test.YtpibemolnjmgoaaDoorDn
import Derived.Conc.MuLone
namespace Go.Proofs.YtpibemolnjmgoaaDoor
set_option linter.unusedSimpArgs false
set_option linter.unusedVariables false
open Go.RowKit

/-! ### control -/
def DW (C : Cx) (c : Code) (Q : Exit → St → Prop) (st : St) : Prop :=
  ∀ bs a w, Rel C st bs a w → c.wp C.P (fun e a' w' => ∃ st' bs', Rel C st' bs' a' w' ∧ Q e st') a w
theorem DW.mono {C : Cx} {c : Code} {Q Q' : Exit → St → Prop} {st : St} (h : DW C c Q st) (hQ : ∀ e st, Q e st → Q' e st) : DW C c Q' st :=
  fun bs a w hr => wp_mono (h bs a w hr) fun e a' w' ⟨st', bs', h1, h2⟩ => ⟨st', bs', h1, hQ _ _ h2⟩
def thenD (next : St → Prop) (Q : Exit → St → Prop) : Exit → St → Prop
  | .normal, st => next st
  | e, st => Q e st
def inBlockD (id : Nat) (Q : Exit → St → Prop) : Exit → St → Prop
  | .exit id', st => match Nat.beq id' id with
    | true => Q .normal st
    | false => Q (.exit id') st
  | e, st => Q e st
theorem DW_skip {C : Cx} {Q : Exit → St → Prop} {st : St} (h : Q .normal st) : DW C .skip Q st := fun bs a w hr => wp_skip ⟨st, bs, hr, h⟩
theorem DW_label {C : Cx} {l : Nat} {Q : Exit → St → Prop} {st : St} (h : Q .normal st) : DW C (.label l) Q st := fun bs a w hr => wp_label ⟨st, bs, hr, h⟩
theorem DW_exit {C : Cx} {id : Nat} {Q : Exit → St → Prop} {st : St} (h : Q (.exit id) st) : DW C (.exit id) Q st := fun bs a w hr => wp_exit ⟨st, bs, hr, h⟩
theorem DW_ret {C : Cx} {Q : Exit → St → Prop} {st : St} (h : Q .ret st) : DW C .ret Q st := fun bs a w hr => wp_ret ⟨st, bs, hr, h⟩
theorem DW_seq {C : Cx} {x y : Code} {Q : Exit → St → Prop} {st : St} (h : DW C x (thenD (fun st' => DW C y Q st') Q) st) : DW C (.seq x y) Q st := fun bs a w hr => by
  refine wp_seq (wp_mono (h bs a w hr) fun e a' w' ⟨st', bs', h1, h2⟩ => ?_)
  cases e with
  | normal => exact h2 bs' a' w' h1
  | _ => exact ⟨st', bs', h1, h2⟩
theorem DW_block {C : Cx} {id : Nat} {c : Code} {Q : Exit → St → Prop} {st : St} (h : DW C c (inBlockD id Q) st) : DW C (.block id c) Q st := fun bs a w hr => by
  refine wp_block (wp_mono (h bs a w hr) fun e a' w' ⟨st', bs', h1, h2⟩ => ?_)
  cases e with
  | exit id' =>
    simp only [inBlockD, Exit.inBlock] at h2 ⊢
    split
    · rename_i he
      subst he
      rw [show Nat.beq id' id' = true from Nat.beq_refl id'] at h2
      exact ⟨st', bs', h1, h2⟩
    · rename_i he
      rw [show Nat.beq id' id = false from by cases hb : Nat.beq id' id with | true => exact absurd (Nat.eq_of_beq_eq_true hb) he | false => rfl] at h2
      exact ⟨st', bs', h1, h2⟩
  | _ => exact ⟨st', bs', h1, h2⟩
theorem DW_cond {C : Cx} {c : Operand} {x y : Code} {Q : Exit → St → Prop} {st : St} {b : Bool} (hc : evD C st c = .v (.bool b)) (ht : b = true → DW C x Q st) (hf : b = false → DW C y Q st) : DW C (.cond c x y) Q st := fun bs a w hr => by
  have hv := RV_evD hr c
  rw [hc] at hv
  exact wp_cond_split (RV_v hv).1 (fun h => ht h bs a w hr) (fun h => hf h bs a w hr)
theorem DW_region {C : Cx} {id : Nat} {ops : Array Oper} {Q : Exit → St → Prop} {st : St} (h : DR C ops (Q .normal) ops.toList st) : DW C (.region id ops false) Q st := fun bs a w hr =>
  wp_region_list (wpList_of_DR (Q := fun e a' w' => ∃ st' bs', Rel C st' bs' a' w' ∧ Q e st') (fun st bs a w h1 h2 => ⟨st, bs, h1, h2⟩) _ st bs a w hr h)
theorem DW_draw {C : Cx} {id : Nat} {l : List Oper} {Q : Exit → St → Prop} {st : St} (n : Nat) (hB : Region.lexTailB .any l.toArray n = true) (h : DRq C l.toArray (fun st' => DR C l.toArray (Q .normal) (l.drop n) st') (l.take n) st) : DW C (.region id l.toArray true) Q st := fun bs a w hr =>
  wp_region_dtail (Q := fun e a' w' => ∃ st' bs', Rel C st' bs' a' w' ∧ Q e st') n hB (fun st bs a w h1 h2 => ⟨st, bs, h1, h2⟩) hr h

/-- a state says no more than another -/
def Weak (C : Cx) (st st' : St) : Prop := ∀ bs a w, Rel C st bs a w → ∃ bs', Rel C st' bs' a w
theorem Weak.refl (C : Cx) (st : St) : Weak C st st := fun bs _ _ h => ⟨bs, h⟩
theorem Weak.trans {C : Cx} {a b c : St} (h : Weak C a b) (k : Weak C b c) : Weak C a c := fun bs x w hr => let ⟨bs', h'⟩ := h bs x w hr; k bs' x w h'
theorem DW_weak {C : Cx} {c : Code} {Q : Exit → St → Prop} {st st' : St} (hw : Weak C st st') (h : DW C c Q st') : DW C c Q st := fun bs a w hr => let ⟨bs', h'⟩ := hw bs a w hr; h bs' a w h'

theorem wp_loopR {P : Program} {Q : Exit → Act → World → Prop} {c : Code} (I : Nat → Act → World → Prop)
    (round : ∀ n a w, I n a w → c.wp P (Exit.then (fun a' w' => ∃ m, m < n ∧ I m a' w') Q) a w) : ∀ n a w, I n a w → (Code.loop c).wp P Q a w := by
  have key : ∀ n a w, I n a w → ∀ (b : Frame) (k : List Item) (cs : List Frame),
      ∃ e a' w', Q e a' w' ∧ Arrives P (lone (b.at a (.code c :: .inLoop c :: k)) cs w) b k cs e a' w' := by
    intro n
    induction n using Nat.strongRecOn with
    | _ n ih =>
      intro a w hI b k cs
      obtain ⟨e, a₁, w₁, hq, harr⟩ := round n a w hI b (.inLoop c :: k) cs
      cases e with
      | normal =>
        obtain ⟨m, hlt, hI₁⟩ := hq
        obtain ⟨e₂, a₂, w₂, hq₂, harr₂⟩ := ih m hlt a₁ w₁ hI₁ b k cs
        exact ⟨e₂, a₂, w₂, hq₂, .of_steps (Steps.trans harr (.one step_inLoop)) harr₂⟩
      | exit id => exact ⟨_, a₁, w₁, hq, .pass (x := .inLoop c) rfl (fun _ _ => .inl (by simp)) harr⟩
      | goto l => exact ⟨_, a₁, w₁, hq, .pass (x := .inLoop c) rfl (fun _ _ => .inl (by simp)) harr⟩
      | ret => exact ⟨_, a₁, w₁, hq, .pass (x := .inLoop c) rfl (fun _ _ => .inl (by simp)) harr⟩
      | panic ch => exact ⟨_, a₁, w₁, hq, .pass (x := .inLoop c) rfl (fun _ _ => .inl (by simp)) harr⟩
      | outgrown => exact ⟨_, a₁, w₁, hq, .pass (x := .inLoop c) rfl (fun _ _ => .inl (by simp)) harr⟩
  intro n a w hI b k cs
  obtain ⟨e, a', w', hq, harr⟩ := key n a w hI b k cs
  exact ⟨e, a', w', hq, .of_steps (.one step_loop) harr⟩
/-- a loop: I n st: so much is left -/
theorem DW_loop {C : Cx} {c : Code} {Q : Exit → St → Prop} {st : St} (I : Nat → St → Prop) (n : Nat) (h0 : ∃ st', Weak C st st' ∧ I n st')
    (round : ∀ n st, I n st → DW C c (thenD (fun st' => ∃ st'' m, Weak C st' st'' ∧ m < n ∧ I m st'') Q) st) : DW C (.loop c) Q st := fun bs a w hr => by
  obtain ⟨st', hw, hI⟩ := h0
  obtain ⟨bs', hr'⟩ := hw bs a w hr
  refine wp_loopR (I := fun n a w => ∃ st bs, Rel C st bs a w ∧ I n st) (fun n a w ⟨st, bs, hr, hI⟩ => wp_mono (round n st hI bs a w hr) fun e a' w' ⟨st1, bs1, h1, h2⟩ => ?_) n a w ⟨st', bs', hr', hI⟩
  cases e with
  | normal =>
    obtain ⟨st2, m, hw2, hm, hI2⟩ := h2
    obtain ⟨bs2, hr2⟩ := hw2 bs1 a' w' h1
    exact ⟨m, hm, st2, bs2, hr2, hI2⟩
  | _ => exact ⟨st1, bs1, h1, h2⟩

/-! ### a state by a list of its slots -/
def look : List (Nat × D) → Nat → D
  | [], _ => .dead
  | (k, d) :: l, t => if t = k then d else look l t
def mk (l : List (Nat × D)) (h : List (Option Bk)) : St := ⟨look l, h⟩
theorem Weak.slots {C : Cx} {s s' : Nat → D} {h : List (Option Bk)} (hs : ∀ t, s' t = s t ∨ s' t = .dead) : Weak C ⟨s, h⟩ ⟨s', h⟩ := fun bs a w hr =>
  ⟨bs, hr.defers, hr.size, fun t => by
    rcases hs t with e | e
    · show RV C w bs _ (s' t); rw [e]; exact hr.slots t
    · show RV C w bs _ (s' t); rw [e]; trivial, hr.wr⟩
def pick (s : Nat → D) (live : List Nat) : List (Nat × D) := live.map fun t => (t, s t)
theorem look_pick (s : Nat → D) : ∀ (live : List Nat) (t : Nat), look (pick s live) t = s t ∨ look (pick s live) t = .dead
  | [], t => .inr rfl
  | k :: live, t => by
    simp only [pick, List.map_cons, look]
    split
    · rename_i h; subst h; exact .inl rfl
    · exact look_pick s live t
theorem Weak.pick {C : Cx} {st : St} (live : List Nat) : Weak C st (mk (pick st.s live) st.h) := Weak.slots (look_pick st.s live)
theorem DW_keep {C : Cx} {c : Code} {Q : Exit → St → Prop} {st : St} (live : List Nat) {l : List (Nat × D)} {h : List (Option Bk)} (e1 : pick st.s live = l) (e2 : st.h = h) (k : DW C c Q (mk l h)) : DW C c Q st :=
  DW_weak (Weak.pick live) (by subst e1; subst e2; exact k)

/-! ### calls -/
/-- what a function that only computes hands back: for arguments that lead to blocks of S alone, a result that leads to these, or to new ones -/
def RVI (w : World) (S : Nat → Prop) : Value → D → Prop := RG (RI w S)
structure Env : Type 1 where
  P : Program
  T : Nat → Option TE
  tab : Nat → D
  gN : Nat
structure Gok (E : Env) (w : World) : Prop where
  gl : Gl E.tab E.gN w
  tok : TOK E.P E.T
  mix : E.P.follows .mixedOrders = true
def PC (E : Env) (f : FuncId) (args : List D) (d : D) : Prop :=
  ∀ (w : World) (S : Nat → Prop) (vs : Array Value), Gok E w → (∀ b, S b → b < w.heap.size) → (∀ b, b < E.gN → S b) → All2 (RVI w S) vs.toList args →
    Calls E.P f vs w fun e w' => ∃ x, e = .returned x ∧ Below w.heap.size w w' ∧ RVI w' (fun b => (S b ∨ w.heap.size ≤ b) ∧ b < w'.heap.size) x d

/-- d may be taken for d' -/
def Le (h : List (Option Bk)) (d d' : D) : Prop := ∀ (C : Cx) (w : World) (bs : List (Option Nat)) (x : Value), WR C h bs w → RV C w bs x d → RVI w (fun b => b < w.heap.size) x d'
/-- .. and it leads to no own block -/
def LeP (d d' : D) : Prop := ∀ (C : Cx) (h : List (Option Bk)) (w : World) (bs : List (Option Nat)) (x : Value), WR C h bs w → RV C w bs x d → RVI w (Sf C w bs) x d'
theorem RG0.imp {R R' : Value → D → Prop} {x : Value} {d : D} (hR : ∀ x i, R x (cell d i) → R' x (cell d i)) (h : RG0 R x d) : RG0 R' x d := by
  cases d with
  | arr k n f => obtain ⟨cs, a, b, c⟩ := h; exact ⟨cs, a, b, fun i hi => hR _ _ (c i hi)⟩
  | cons p q => obtain ⟨cs, a, b, c⟩ := h; exact ⟨cs, a, b, fun i hi => hR _ _ (c i hi)⟩
  | nil => exact h
  | tup ps => exact h
  | dead => trivial
  | _ => exact hR _ 0 h
theorem TG.imp {R R' : Value → D → Prop} : ∀ {d : D} {vs : List Value}, pureD d = true → (∀ x d', pureD d' = true → R x d' → R' x d') → TG R vs d → TG R' vs d
  | .nil, [], _, _, _ => trivial
  | .cons p q, _ :: _, hp, hR, h => by
    simp only [pureD, Bool.and_eq_true] at hp
    exact ⟨h.1.imp fun x i => hR x _ (pure_cell hp.1 i), TG.imp hp.2 hR h.2⟩
  | .cons _ _, [], _, _, h => h.elim
  | .nil, _ :: _, _, _, h => h.elim
  | .v _, [], _, _, h => h.elim
  | .v _, _ :: _, _, _, h => h.elim
  | .arr .., [], _, _, h => h.elim
  | .arr .., _ :: _, _, _, h => h.elim
  | .tup _, [], _, _, h => h.elim
  | .tup _, _ :: _, _, _, h => h.elim
  | .sl .., [], _, _, h => h.elim
  | .sl .., _ :: _, _, _, h => h.elim
  | .ip _, [], _, _, h => h.elim
  | .ip _, _ :: _, _, _, h => h.elim
  | .ptr .., _, hp, _, _ => by cases hp
  | .own .., _, hp, _, _ => by cases hp
  | .osl .., _, hp, _, _ => by cases hp
  | .fn .., _, hp, _, _ => by cases hp
  | .dead, [], _, _, h => h.elim
  | .dead, _ :: _, _, _, h => h.elim
theorem RG.imp {R R' : Value → D → Prop} {x : Value} {d : D} (hp : pureD d = true) (hR : ∀ x d', pureD d' = true → R x d' → R' x d') (h : RG R x d) : RG R' x d := by
  cases d with
  | tup ps => obtain ⟨vs, a, b⟩ := h; exact ⟨vs, a, TG.imp hp hR b⟩
  | _ => simp only [RG] at h ⊢; exact h.imp fun x i => hR x _ (pure_cell hp i)
theorem LeP.refl {d : D} (hp : pureD d = true) : LeP d d := fun _ _ _ _ _ _ hx => RG.imp hp (fun _ _ hp' h => h.pure hp') hx
theorem LeP.le {h : List (Option Bk)} {d d' : D} (k : LeP d d') : Le h d d' := fun C w bs x hw hx => RG.mono (fun x d hr => hr.mono fun b hb => ⟨hb.2.1, rfl⟩) (k C h w bs x hw hx)
theorem LeP.nil {α : Type} {z : α} {e : α → D} : LeP (.v (.slice none 0 0)) (.sl [] z e) := fun C h w bs x hw hx => by
  have := (RV_v hx).1
  subst this
  exact RI.sl0
theorem Le_nil {h : List (Option Bk)} {α : Type} {z : α} {e : α → D} : Le h (.v (.slice none 0 0)) (.sl [] z e) := LeP.nil.le
/-- a slice, by its elements -/
theorem Le_elems {h : List (Option Bk)} {d : D} {p : Prop} {es : List D} {α : Type} {l : List α} {z : α} {f : α → D} (he : elems h d = some (p, es)) (hp : p) (hl : es = l.map f) (hpure : ∀ x, pureD (f x) = true) : Le h d (.sl l z f) := by
  intro C w bs x hw hx
  obtain ⟨a, cap, rfl, hcap, hor⟩ := elems_spec hw hx he hp
  subst hl
  rw [List.length_map] at hcap ⊢
  show RI w _ _ _
  rcases hor with h0 | ⟨b, off, sz, rfl, hR⟩
  · have : l = [] := by simpa using h0
    subst this
    exact .sl0
  · by_cases hne : l = []
    · subst hne; exact .sl0
    · have hcell : ∀ i j, i < l.length → j < sz → ∃ y, w.cell? ⟨b, off + (i * sz + j), none⟩ = some y ∧ RI w (fun b => b < w.heap.size) y (cell (f (l.getD i z)) j) := fun i j hi hj => by
        obtain ⟨y, h1, h2⟩ := hR.cells i j (by simpa using hi) hj
        refine ⟨y, h1, ?_⟩
        have h3 := h2.pure (pure_cell (by simpa using hpure (l[i])) j)
        have h4 := h3.mono (S' := fun b => b < w.heap.size) (w' := w) fun b hb => ⟨hb.2.1, rfl⟩
        simpa [List.getD_eq_getElem?_getD, hi] using h4
      refine .sl sz (fun i j => (w.cell? ⟨b, off + (i * sz + j), none⟩).getD undef) hR.lt hcap (fun i hi => ?_) (fun i j hi hj => ?_) (fun i j hi hj => ?_)
      · have := hR.nsz (f (l[i])) (List.mem_map_of_mem (List.getElem_mem hi))
        simpa [List.getD_eq_getElem?_getD, hi] using this
      · obtain ⟨y, h1, _⟩ := hcell i j hi hj
        simp [h1]
      · obtain ⟨y, h1, h2⟩ := hcell i j hi hj
        simpa [h1] using h2

/-- a result that leads nowhere -/
def flatD : D → Bool
  | .v _ => true
  | .arr .. => true
  | .nil => true
  | .cons h t => flatD h && flatD t
  | .tup ps => flatD ps
  | _ => false
theorem flat_cell {d : D} (h : flatD d = true) : ∀ i, (∃ x, cell d i = .v x) ∨ cell d i = .dead ∨ (∃ ps, cell d i = .tup ps) := by
  induction d with
  | cons a b ih1 ih2 =>
    intro i
    simp only [flatD, Bool.and_eq_true] at h
    simp only [cell]
    split
    · exact ih1 h.1 i
    · exact ih2 h.2 _
  | arr => intro i; exact .inl ⟨_, rfl⟩
  | nil => intro i; exact .inr (.inl rfl)
  | v => intro i; exact .inl ⟨_, rfl⟩
  | tup => intro i; exact .inr (.inr ⟨_, rfl⟩)
  | sl => cases h
  | ip => cases h
  | ptr => cases h
  | own => cases h
  | osl => cases h
  | fn => cases h
  | dead => cases h
theorem RI.flat {w w' : World} {S S' : Nat → Prop} {x : Value} {d : D} (h : RI w S x d) (hd : (∃ x, d = .v x) ∨ d = .dead ∨ (∃ ps, d = .tup ps)) : RI w' S' x d := by
  rcases hd with ⟨y, rfl⟩ | rfl | ⟨ps, rfl⟩
  · cases h with | v h => exact .v h
  · cases h with | dead h => exact .dead h
  · cases h
theorem TG.flat {w w' : World} {S S' : Nat → Prop} : ∀ {d : D} {vs : List Value}, flatD d = true → TG (RI w S) vs d → TG (RI w' S') vs d
  | .nil, [], _, _ => trivial
  | .cons p q, _ :: _, hp, h => by
    simp only [flatD, Bool.and_eq_true] at hp
    exact ⟨h.1.imp fun x i hx => hx.flat (flat_cell hp.1 i), TG.flat hp.2 h.2⟩
  | .cons _ _, [], _, h => h.elim
  | .nil, _ :: _, _, h => h.elim
  | .v _, [], _, h => h.elim
  | .v _, _ :: _, _, h => h.elim
  | .arr .., [], _, h => h.elim
  | .arr .., _ :: _, _, h => h.elim
  | .tup _, [], _, h => h.elim
  | .tup _, _ :: _, _, h => h.elim
  | .sl .., _, hp, _ => by cases hp
  | .ip _, _, hp, _ => by cases hp
  | .ptr .., _, hp, _ => by cases hp
  | .own .., _, hp, _ => by cases hp
  | .osl .., _, hp, _ => by cases hp
  | .fn .., _, hp, _ => by cases hp
  | .dead, _, hp, _ => by cases hp
theorem RVI.flat {w w' : World} {S S' : Nat → Prop} {x : Value} {d : D} (hd : flatD d = true) (h : RVI w S x d) : RVI w' S' x d := by
  cases d with
  | tup ps => obtain ⟨vs, a, b⟩ := h; exact ⟨vs, a, TG.flat hd b⟩
  | _ => simp only [RVI, RG] at h ⊢; exact h.imp fun x i hx => hx.flat (flat_cell hd i)

/-- what calls of this look are looked at in -/
structure EnvC (E : Env) (C : Cx) : Prop where
  P : E.P = C.P
  T : E.T = C.T
  tab : E.tab = C.tab
  gN : E.gN = C.gN
theorem Gok_of {E : Env} {C : Cx} (hE : EnvC E C) {h : List (Option Bk)} {bs : List (Option Nat)} {w : World} (hw : WR C h bs w) : Gok E w := by
  obtain ⟨e1, e2, e3, e4⟩ := hE
  refine ⟨?_, by rw [e1, e2]; exact hw.tok, by rw [e1]; exact hw.mix⟩
  rw [e3, e4]
  exact hw.g0.mono hw.fr.size fun b hb => hw.fr.block b (hw.gl b hb).1
theorem WR.below {C : Cx} {h : List (Option Bk)} {bs : List (Option Nat)} {w w' : World} (hw : WR C h bs w) (hb : Below w.heap.size w w') : WR C h bs w' ∧ Ext C w bs w' bs := by
  have hE : Ext C w bs w' bs := ext_im hw hb.size hb.block
  refine ⟨⟨hw.len, hw.inj, fun i b hi => ⟨Nat.lt_of_lt_of_le (hw.ok i b hi).1 hb.size, (hw.ok i b hi).2⟩, fun i k hk => ?_, ?_, hw.gl, hw.g0, hw.tok, hw.mix, hw.s0, fun i b hi => ⟨(hE.ow i b (hw.fix i b hi).1).1, (hE.ow i b (hw.fix i b hi).1).2.trans (hw.fix i b hi).2⟩⟩, hE⟩
  · rcases hw.blk i k hk with ⟨b, h1, h2⟩ | h0
    · exact .inl ⟨b, h1, h2.ext hE (hb.block b (hw.ok i b h1).1)⟩
    · exact .inr h0
  · have hf := hw.fr
    exact ⟨hb.os.trans hf.os, hb.tape.trans hf.tape, hb.output.trans hf.output, Nat.le_trans hf.size hb.size, fun b h0 => (hb.block b (by have := hw.s0 b h0; have := hf.size; omega)).trans (hf.block b h0)⟩
theorem All2.imp {α β γ : Type _} {R : α → β → Prop} {R' : α → γ → Prop} {K : β → γ → Prop} (hR : ∀ a b c, R a b → K b c → R' a c) : ∀ {as : List α} {bs : List β} {cs : List γ}, All2 R as bs → All2 K bs cs → All2 R' as cs
  | _, _, _, .nil, .nil => .nil
  | _, _, _, .cons h t, .cons h' t' => .cons (hR _ _ _ h h') (All2.imp hR t t')
theorem All2.mapl {α β γ : Type _} {R : α → β → Prop} {f : γ → α} : ∀ {l : List γ} {bs : List β}, All2 (fun x d => R (f x) d) l bs → All2 R (l.map f) bs
  | _, _, .nil => .nil
  | _, _, .cons h t => .cons h t.mapl

theorem run_callf {P : Program} {f : FuncId} {fn : Func} (hf : P.funcs[f]? = some fn) (hname : (fn.name == "runtime.NumGoroutine") = false) (hb : fn.body.isSome = true) (args : Array Value) (w : World) : (callFunc f args).run P w = .ok (.enter f args) w := by
  obtain ⟨c, hc⟩ := Option.isSome_iff_exists.1 hb
  exact MuLone.run_callFunc_enter hf hname hc args w
def fnB (P : Program) (f : FuncId) : Bool := match P.funcs[f]? with | some fn => !(fn.name == "runtime.NumGoroutine") && fn.body.isSome | none => false
theorem fnB_spec {P : Program} {f : FuncId} (h : fnB P f = true) (args : Array Value) (w : World) : (callFunc f args).run P w = .ok (.enter f args) w := by
  unfold fnB at h
  split at h
  · rename_i fn hf
    simp only [Bool.and_eq_true, Bool.not_eq_true'] at h
    exact run_callf hf h.1 h.2 args w
  · cases h
theorem RV_fn {C : Cx} {w : World} {bs : List (Option Nat)} {x : Value} {f : FuncId} {caps : D} (h : RV C w bs x (.fn f caps)) : ∃ cs : Array Value, x = .func (.func f) #[] cs ∧ cs.size = nc caps ∧ ∀ i (hi : i < cs.size), R1 C w bs cs[i] (cell caps i) := by
  have h' : R1 C w bs x (.fn f caps) := h
  cases h' with
  | im h => cases h with | fn hn h => exact ⟨_, rfl, hn, fun i hi => .im (h i hi)⟩
  | fn hn h => exact ⟨_, rfl, hn, h⟩
theorem All2.append {α β : Type _} {R : α → β → Prop} : ∀ {a : List α} {b : List β} {c : List α} {d : List β}, All2 R a b → All2 R c d → All2 R (a ++ c) (b ++ d)
  | _, _, _, _, .nil, h => h
  | _, _, _, _, .cons h t, k => .cons h (t.append k)
theorem All2.of_get {α β : Type _} {R : α → β → Prop} : ∀ {as : List α} {bs : List β}, as.length = bs.length → (∀ i (h1 : i < as.length) (h2 : i < bs.length), R as[i] bs[i]) → All2 R as bs
  | [], [], _, _ => .nil
  | [], _ :: _, h, _ => by simp at h
  | _ :: _, [], h, _ => by simp at h
  | a :: as, b :: bs, h, k => .cons (k 0 (by simp) (by simp)) (All2.of_get (by simpa using h) fun i h1 h2 => k (i + 1) (by simpa using h1) (by simpa using h2))
/-- the values that a call hands over -/
theorem call_args {C : Cx} {w : World} {bs : List (Option Nat)} {ρ : Operand → Value} {g : Operand} {args : Array Operand} {ts : Array TypeId} {f : FuncId} {cs xs : List D} (hcs : ∀ d ∈ cs, scB d = true) (hf : fnB C.P f = true) {o : Oper} (ho : o.op = .call { callee := .value g, args := args, argTypes := ts })
    (ha : All2 (fun x d => RV C w bs (ρ x) d) o.op.operands.toList (.fn f (listD cs) :: xs)) : ∃ vs : Array Value, (execOp ρ o).run C.P w = .ok (.enter f vs) w ∧ All2 (RV C w bs) vs.toList (xs ++ cs) := by
  rw [ho] at ha
  have h0 : (Op.call { callee := .value g, args := args, argTypes := ts }).operands.toList = g :: args.toList := by simp [Op.operands, Call.operands]
  rw [h0] at ha
  cases ha with
  | cons hg ht =>
    obtain ⟨c, hc1, hc2, hc3⟩ := RV_fn hg
    obtain ⟨n1, n2⟩ := nc_listD cs hcs
    refine ⟨args.map ρ ++ c, ?_, ?_⟩
    · simp only [execOp, ho, resolve, Sem.run_bind, hc1]
      simp [Deferred.ofValue, invoke, fnB_spec hf]
    · rw [Array.toList_append, Array.toList_map]
      refine ht.mapl.append (All2.of_get (by simpa [n1] using hc2) fun i h1 h2 => ?_)
      have := hc3 i (by simpa using h1)
      rw [n2 i h2] at this
      exact (RV_sc (hcs _ (List.getElem_mem h2))).2 (by simpa using this)
theorem run_PC {E : Env} {C : Cx} (hE : EnvC E C) {h : List (Option Bk)} {f : FuncId} {ys : List D} {d : D} {bs : List (Option Nat)} {w : World} (hw : WR C h bs w) {S : Nat → Prop} (hS : ∀ b, S b → b < w.heap.size) (hg : ∀ b, b < C.gN → S b) {vs : Array Value} (hv : All2 (RVI w S) vs.toList ys) (hc : PC E f ys d)
    (hd : ∀ w', Below w.heap.size w w' → WR C h bs w' → ∀ x, RVI w' (fun b => (S b ∨ w.heap.size ≤ b) ∧ b < w'.heap.size) x d → RV C w' bs x d) :
    Calls C.P f vs w fun e w'' => ∃ x, e = .returned x ∧ WR C h bs w'' ∧ Ext C w bs w'' bs ∧ RV C w'' bs x d := by
  have h1 := hc w S vs (Gok_of hE hw) hS (by rw [hE.gN]; exact hg) hv
  rw [hE.P] at h1
  refine h1.mono fun e w'' ⟨x, he, hb, hx⟩ => ?_
  obtain ⟨w1, w2⟩ := hw.below hb
  exact ⟨x, he, w1, w2, hd w'' hb w1 x hx⟩
theorem Sf_g {C : Cx} {h : List (Option Bk)} {bs : List (Option Nat)} {w : World} (hw : WR C h bs w) : ∀ b, b < C.gN → Sf C w bs b := fun b hb =>
  ⟨.inl (hw.gl b hb).2, by have := hw.g0.1; have := hw.fr.size; omega, fun i hi => (hw.ok i b hi).2 (hw.gl b hb).1⟩
/-- a call, whose arguments lead to no own block -/
theorem DQ_call {E : Env} {C : Cx} (hE : EnvC E C) {o : Oper} {h : List (Option Bk)} {g : Operand} {f : FuncId} {args : Array Operand} {ts : Array TypeId} {cs xs ys : List D} {d : D} (ho : o.op = .call { callee := .value g, args := args, argTypes := ts }) (hf : fnB C.P f = true) (hcs : cs.all scB = true) (hx : All2 LeP (xs ++ cs) ys) (hc : PC E f ys d) : DQ C o (.fn f (listD cs) :: xs) h d := by
  intro bs w ρ hw ha
  obtain ⟨vs, hrun, hv⟩ := call_args (by simpa using hcs) hf ho ha
  rw [hrun]
  refine run_PC hE hw (S := Sf C w bs) (fun b hb => hb.2.1) (Sf_g hw) (All2.imp (fun a b c h1 h2 => h2 C h w bs a hw h1) hv hx) hc fun w' hb w1 x hx => ?_
  refine RG.mono (fun x d hr => .im (hr.mono fun b hb' => ⟨?_, rfl⟩)) hx
  rcases hb'.1 with h1 | h1
  · exact ⟨h1.1, hb'.2, h1.2.2⟩
  · refine ⟨.inr (Nat.le_trans hw.fr.size h1), hb'.2, fun i hi => ?_⟩
    have := (hw.ok i b hi).1
    omega
/-- a call whose result leads nowhere -/
theorem DQ_callf {E : Env} {C : Cx} (hE : EnvC E C) {o : Oper} {h : List (Option Bk)} {g : Operand} {f : FuncId} {args : Array Operand} {ts : Array TypeId} {cs xs ys : List D} {d : D} (ho : o.op = .call { callee := .value g, args := args, argTypes := ts }) (hf : fnB C.P f = true) (hcs : cs.all scB = true) (hx : All2 (Le h) (xs ++ cs) ys) (hd : flatD d = true) (hc : PC E f ys d) : DQ C o (.fn f (listD cs) :: xs) h d := by
  intro bs w ρ hw ha
  obtain ⟨vs, hrun, hv⟩ := call_args (by simpa using hcs) hf ho ha
  rw [hrun]
  refine run_PC hE hw (S := fun b => b < w.heap.size) (fun b hb => hb) (fun b hb => (Sf_g hw b hb).2.1) (All2.imp (fun a b c h1 h2 => h2 C w bs a hw h1) hv hx) hc fun w' hb w1 x hx => ?_
  exact RG.mono (fun x d hr => .im hr) (RVI.flat (w' := w') (S' := Sf C w' bs) hd hx)

/-! ### a function, by its body -/
def resD (C : Cx) (st : St) : List ResultVar → Option (Prop × D)
  | [] => some (True, .nil)
  | .tmp t :: rs => match resD C st rs with | some (p, d) => some (p, .cons (st.s t) d) | none => none
  | .cell t ty :: rs => match loadF C.T st.h ty (st.s t), resD C st rs with | some (q, r), some (p, d) => some (q ∧ p, .cons r d) | _, _ => none
end Go.Proofs.YtpibemolnjmgoaaDoor
