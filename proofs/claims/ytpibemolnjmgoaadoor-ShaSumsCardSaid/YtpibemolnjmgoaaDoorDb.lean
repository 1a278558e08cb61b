/- What the temporaries and the memory of a call stand for, part 1. It speaks of no program of ours. -/
import Derived.Test.YtpibemolnjmgoaaDoorDa
namespace Go.Proofs.YtpibemolnjmgoaaDoor
set_option linter.unusedSimpArgs false
set_option linter.unusedVariables false
open Go.RowKit

/-- what a call is looked at in -/
structure Cx : Type 1 where
  P : Program
  T : Nat → Option TE
  tab : Nat → D
  gN : Nat
  n : Nat
  w0 : World
  A : Nat → Prop
  S0 : Nat → Prop
  fx : Nat → Option Nat

/-- blocks that immutable values may lead to -/
def Sf (C : Cx) (w : World) (bs : List (Option Nat)) (b : Nat) : Prop := (C.A b ∨ C.w0.heap.size ≤ b) ∧ b < w.heap.size ∧ ∀ i : Nat, bs[i]? ≠ some (some b)

inductive R1 (C : Cx) (w : World) (bs : List (Option Nat)) : Value → D → Prop where
  | im {x d} (h : RI w (Sf C w bs) x d) : R1 C w bs x d
  | ptr {l o b} (h : bs[l]? = some (some b)) : R1 C w bs (.pointer (some ⟨b, o, none⟩)) (.ptr l o)
  | own {l n T sz b cap} (h : bs[l]? = some (some b)) (hs : w.shape? b = some (T, cap * sz)) (hn : n ≤ cap) (hc : cap ≤ maxLen) : R1 C w bs (.slice (some ⟨b, 0, none⟩) n cap) (.own l n T sz)
  | own0 {l T sz} : R1 C w bs (.slice none 0 0) (.own l 0 T sz)
  | osl0 {l o a cap} : R1 C w bs (.slice a 0 cap) (.osl l o 0)
  | osl {l o n b cap} (h : bs[l]? = some (some b)) (hn : n ≤ cap) : R1 C w bs (.slice (some ⟨b, o, none⟩) n cap) (.osl l o n)
  | fn {f : FuncId} {cs : Array Value} {caps : D} (hn : cs.size = nc caps) (h : ∀ i (hi : i < cs.size), R1 C w bs cs[i] (cell caps i)) : R1 C w bs (.func (.func f) #[] cs) (.fn f caps)

theorem R1.isC {C : Cx} {w : World} {bs : List (Option Nat)} {x : Value} {d : D} (h : R1 C w bs x d) : isC x = true := by
  cases h with
  | im h => exact h.isC
  | _ => rfl

/-- values, aggregates taken by their cells -/
def RG0 (R : Value → D → Prop) (x : Value) : D → Prop
  | .arr k n f => ∃ cs : Array Value, x = .agg cs ∧ cs.size = n ∧ ∀ i (hi : i < cs.size), R cs[i] (cell (.arr k n f) i)
  | .nil => ∃ cs : Array Value, x = .agg cs ∧ cs.size = 0
  | .cons h t => ∃ cs : Array Value, x = .agg cs ∧ cs.size = nc (.cons h t) ∧ ∀ i (hi : i < cs.size), R cs[i] (cell (.cons h t) i)
  | .tup _ => False
  | .dead => True
  | d => R x d
def TG (R : Value → D → Prop) : List Value → D → Prop
  | [], .nil => True
  | x :: xs, .cons h t => RG0 R x h ∧ TG R xs t
  | _, _ => False
def RG (R : Value → D → Prop) (x : Value) : D → Prop
  | .tup ps => ∃ vs : Array Value, x = .tuple vs ∧ TG R vs.toList ps
  | d => RG0 R x d
abbrev RV (C : Cx) (w : World) (bs : List (Option Nat)) : Value → D → Prop := RG (R1 C w bs)

theorem RG0.mono {R R' : Value → D → Prop} {d : D} (hR : ∀ x d, R x d → R' x d) {x : Value} (h : RG0 R x d) : RG0 R' x d := by
  cases d with
  | arr k n f => obtain ⟨cs, a, b, c⟩ := h; exact ⟨cs, a, b, fun i hi => hR _ _ (c i hi)⟩
  | cons p q => obtain ⟨cs, a, b, c⟩ := h; exact ⟨cs, a, b, fun i hi => hR _ _ (c i hi)⟩
  | nil => exact h
  | tup ps => exact h
  | dead => trivial
  | _ => exact hR _ _ h
theorem TG.mono {R R' : Value → D → Prop} (hR : ∀ x d, R x d → R' x d) : ∀ {vs : List Value} {d : D}, TG R vs d → TG R' vs d
  | [], .nil, _ => trivial
  | _ :: _, .cons _ _, h => ⟨h.1.mono hR, TG.mono hR h.2⟩
  | [], .cons _ _, h => h.elim
  | [], .v _, h => h.elim
  | [], .arr .., h => h.elim
  | [], .tup _, h => h.elim
  | [], .sl .., h => h.elim
  | [], .ip _, h => h.elim
  | [], .ptr .., h => h.elim
  | [], .own .., h => h.elim
  | [], .osl .., h => h.elim
  | [], .fn .., h => h.elim
  | [], .dead, h => h.elim
  | _ :: _, .nil, h => h.elim
  | _ :: _, .v _, h => h.elim
  | _ :: _, .arr .., h => h.elim
  | _ :: _, .tup _, h => h.elim
  | _ :: _, .sl .., h => h.elim
  | _ :: _, .ip _, h => h.elim
  | _ :: _, .ptr .., h => h.elim
  | _ :: _, .own .., h => h.elim
  | _ :: _, .osl .., h => h.elim
  | _ :: _, .fn .., h => h.elim
  | _ :: _, .dead, h => h.elim
theorem RG.mono {R R' : Value → D → Prop} {d : D} (hR : ∀ x d, R x d → R' x d) {x : Value} (h : RG R x d) : RG R' x d := by
  cases d with
  | tup ps => obtain ⟨vs, a, b⟩ := h; exact ⟨vs, a, b.mono hR⟩
  | _ => simp only [RG] at h ⊢; exact RG0.mono hR h

/-- own blocks -/
inductive Bk : Type 1 where
  | one (d : D)
  | row (L : List D) (T sz : Nat)

def unfro (fz : Nat × Nat) (n : Nat) : Prop := fz = (0, 0) ∨ n ≤ fz.1

def BR (C : Cx) (w : World) (bs : List (Option Nat)) (b : Nat) : Bk → Prop
  | .one d => ∃ cs T fz, w.heap[b]? = some (.cells cs T fz) ∧ cs.size = nc d ∧ unfro fz cs.size ∧ ∀ i (hi : i < cs.size), R1 C w bs cs[i] (cell d i)
  | .row L T sz => ∃ cs fz, w.heap[b]? = some (.cells cs T fz) ∧ L.length * sz ≤ cs.size ∧ unfro fz cs.size ∧ (∀ d ∈ L, nc d = sz) ∧
      ∀ i j (hi : i < L.length), j < sz → ∃ x, cs[i * sz + j]? = some x ∧ RI w (Sf C w bs) x (cell L[i] j)

structure Fr (S0 : Nat → Prop) (w0 w : World) : Prop where
  os : w.os = w0.os
  tape : w.tape = w0.tape
  output : w.output = w0.output
  size : w0.heap.size ≤ w.heap.size
  block : ∀ b, S0 b → w.heap[b]? = w0.heap[b]?

def Gl (tab : Nat → D) (gN : Nat) (w : World) : Prop := gN ≤ w.heap.size ∧ ∀ g, g < gN → tab g ≠ .dead → RI w (· < gN) (.pointer (some ⟨g, 0, none⟩)) (.ip (tab g))

structure WR (C : Cx) (h : List (Option Bk)) (bs : List (Option Nat)) (w : World) : Prop where
  len : bs.length = h.length
  inj : ∀ (i j b : Nat), bs[i]? = some (some b) → bs[j]? = some (some b) → i = j
  ok : ∀ (i b : Nat), bs[i]? = some (some b) → b < w.heap.size ∧ ¬ C.S0 b
  blk : ∀ (i : Nat) (k : Bk), h[i]? = some (some k) → (∃ b : Nat, bs[i]? = some (some b) ∧ BR C w bs b k) ∨ (∃ T sz, k = .row [] T sz ∧ bs[i]? = some none)
  fr : Fr C.S0 C.w0 w
  gl : ∀ b, b < C.gN → C.S0 b ∧ C.A b
  g0 : Gl C.tab C.gN C.w0
  tok : TOK C.P C.T
  mix : C.P.follows .mixedOrders = true
  s0 : ∀ b, C.S0 b → b < C.w0.heap.size
  fix : ∀ (i b : Nat), C.fx i = some b → bs[i]? = some (some b) ∧ w.shape? b = C.w0.shape? b

theorem Fr.trans {S0 : Nat → Prop} {a b c : World} (h : Fr S0 a b) (k : Fr S0 b c) : Fr S0 a c :=
  ⟨k.os.trans h.os, k.tape.trans h.tape, k.output.trans h.output, Nat.le_trans h.size k.size, fun i hi => (k.block i hi).trans (h.block i hi)⟩

theorem Gl.mono {tab : Nat → D} {gN : Nat} {w w' : World} (h : Gl tab gN w) (hs : w.heap.size ≤ w'.heap.size) (hb : ∀ b, b < gN → w'.heap[b]? = w.heap[b]?) : Gl tab gN w' :=
  ⟨Nat.le_trans h.1 hs, fun g hg ht => (h.2 g hg ht).mono fun b hb' => ⟨hb', hb b hb'⟩⟩

structure St : Type 1 where
  s : Nat → D
  h : List (Option Bk)

def upd (s : Nat → D) (t : Nat) (d : D) : Nat → D := fun i => if i = t then d else s i
def St.put (st : St) (dst : Option Tmp) (d : D) : St :=
  match dst with
  | some t => { st with s := upd st.s t d }
  | none => st

structure Rel (C : Cx) (st : St) (bs : List (Option Nat)) (a : Act) (w : World) : Prop where
  defers : a.defers = []
  size : a.tmps.size = C.n
  slots : ∀ t, RV C w bs (a.tmps.getD t undef) (st.s t)
  wr : WR C st.h bs w

theorem Rel.put {C : Cx} {st : St} {bs : List (Option Nat)} {a : Act} {w : World} (h : Rel C st bs a w) {dst : Option Tmp} (hd : ∀ t, dst = some t → t < C.n) {x : Value} {d : D} (hx : RV C w bs x d) : Rel C (st.put dst d) bs (a.put dst x) w := by
  cases dst with
  | none => exact h
  | some t =>
    have ht := hd t rfl
    refine ⟨h.defers, by simp [Act.put, h.size], fun i => ?_, h.wr⟩
    simp only [Act.put, St.put, upd]
    by_cases hi : i = t
    · subst hi
      have : i < a.tmps.size := by rw [h.size]; exact ht
      simp [Array.getD, this, hx]
    · have := h.slots i
      simp only [hi, if_false]
      have e : (a.tmps.setIfInBounds t x).getD i undef = a.tmps.getD i undef := by
        simp only [Array.getD_eq_getD_getElem?]
        rw [Array.getElem?_setIfInBounds_ne (by omega)]
      rw [e]
      exact this

/-- what old values need when the world goes on -/
structure Ext (C : Cx) (w : World) (bs : List (Option Nat)) (w' : World) (bs' : List (Option Nat)) : Prop where
  im : ∀ b, Sf C w bs b → Sf C w' bs' b ∧ w'.heap[b]? = w.heap[b]?
  ow : ∀ (i b : Nat), bs[i]? = some (some b) → bs'[i]? = some (some b) ∧ w'.shape? b = w.shape? b

theorem Ext.refl (C : Cx) (w : World) (bs : List (Option Nat)) : Ext C w bs w bs := ⟨fun _ h => ⟨h, rfl⟩, fun _ _ h => ⟨h, rfl⟩⟩
theorem Ext.trans {C : Cx} {w w' w'' : World} {bs bs' bs'' : List (Option Nat)} (h : Ext C w bs w' bs') (k : Ext C w' bs' w'' bs'') : Ext C w bs w'' bs'' :=
  ⟨fun b hb => ⟨(k.im b (h.im b hb).1).1, (k.im b (h.im b hb).1).2.trans (h.im b hb).2⟩, fun i b hb => ⟨(k.ow i b (h.ow i b hb).1).1, (k.ow i b (h.ow i b hb).1).2.trans (h.ow i b hb).2⟩⟩
theorem R1.ext {C : Cx} {w w' : World} {bs bs' : List (Option Nat)} (hE : Ext C w bs w' bs') {x : Value} {d : D} (h : R1 C w bs x d) : R1 C w' bs' x d := by
  induction h with
  | im h => exact .im (h.mono hE.im)
  | ptr h => exact .ptr (hE.ow _ _ h).1
  | own h hs hn hc => exact .own (hE.ow _ _ h).1 ((hE.ow _ _ h).2.trans hs) hn hc
  | own0 => exact .own0
  | osl0 => exact .osl0
  | osl h hn => exact .osl (hE.ow _ _ h).1 hn
  | fn hn _ ih => exact .fn hn ih
theorem RV.ext {C : Cx} {w w' : World} {bs bs' : List (Option Nat)} (hE : Ext C w bs w' bs') {x : Value} {d : D} (h : RV C w bs x d) : RV C w' bs' x d := RG.mono (fun _ _ => R1.ext hE) h
theorem BR.ext {C : Cx} {w w' : World} {bs bs' : List (Option Nat)} (hE : Ext C w bs w' bs') {b : Nat} (hb : w'.heap[b]? = w.heap[b]?) {k : Bk} (h : BR C w bs b k) : BR C w' bs' b k := by
  cases k with
  | one d => obtain ⟨cs, T, fz, h1, h2, h3, h4⟩ := h; exact ⟨cs, T, fz, hb.trans h1, h2, h3, fun i hi => (h4 i hi).ext hE⟩
  | row L T sz =>
    obtain ⟨cs, fz, h1, h2, h3, h4, h5⟩ := h
    refine ⟨cs, fz, hb.trans h1, h2, h3, h4, fun i j hi hj => ?_⟩
    obtain ⟨x, hx, hr⟩ := h5 i j hi hj
    exact ⟨x, hx, hr.mono hE.im⟩
theorem shape_of_heap {w w' : World} {b : Nat} (h : w'.heap[b]? = w.heap[b]?) : w'.shape? b = w.shape? b := by
  unfold World.shape?; rw [h]

/-- a new block of one's own -/
theorem ext_new {C : Cx} {w : World} {h : List (Option Bk)} {bs : List (Option Nat)} (hw : WR C h bs w) (o : Obj) : Ext C w bs (w.alloc o) (bs ++ [some w.heap.size]) := by
  refine ⟨fun b hb => ⟨⟨hb.1, ?_, fun i hi => ?_⟩, Below.heap_alloc _ _ _ hb.2.1⟩, fun i b hb => ⟨?_, shape_of_heap (Below.heap_alloc _ _ _ (hw.ok i b hb).1)⟩⟩
  · have := hb.2.1; simp; omega
  · rcases Nat.lt_or_ge i bs.length with hl | hl
    · rw [List.getElem?_append_left hl] at hi; exact hb.2.2 i hi
    · rw [List.getElem?_append_right hl] at hi
      have hz : i - bs.length = 0 := by
        rcases Nat.eq_zero_or_pos (i - bs.length) with h0 | h0
        · exact h0
        · rw [List.getElem?_eq_none (by simp; omega)] at hi; cases hi
      rw [hz] at hi
      simp at hi
      have := hb.2.1
      omega
  · have hl : i < bs.length := (List.getElem?_eq_some_iff.1 hb).1
    rw [List.getElem?_append_left hl]; exact hb

/-- a new block that is nobody's -/
theorem ext_im {C : Cx} {w w' : World} {h : List (Option Bk)} {bs : List (Option Nat)} (hw : WR C h bs w) (hs : w.heap.size ≤ w'.heap.size) (hb : ∀ b, b < w.heap.size → w'.heap[b]? = w.heap[b]?) : Ext C w bs w' bs :=
  ⟨fun b hb' => ⟨⟨hb'.1, Nat.lt_of_lt_of_le hb'.2.1 hs, hb'.2.2⟩, hb b hb'.2.1⟩, fun i b hb' => ⟨hb', shape_of_heap (hb b (hw.ok i b hb').1)⟩⟩
end Go.Proofs.YtpibemolnjmgoaaDoor
