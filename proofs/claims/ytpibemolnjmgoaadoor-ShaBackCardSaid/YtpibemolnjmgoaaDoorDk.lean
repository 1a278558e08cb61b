/- The operations that make or write memory of one's own, part 3: rows, appends. It speaks of no program of ours. -/
import Derived.Test.YtpibemolnjmgoaaDoorDj
import Derived.Laws.IdiomStrings
namespace Go.Proofs.YtpibemolnjmgoaaDoor
set_option linter.unusedSimpArgs false
set_option linter.unusedVariables false
open Go.RowKit

/-! ### forgetting what leads to an own block -/
def kil (l : Nat) : D → D
  | .ptr l' o => if l' = l then .dead else .ptr l' o
  | .own l' n T sz => if l' = l then .dead else .own l' n T sz
  | .osl l' o n => if l' = l then .dead else .osl l' o n
  | .cons h t => .cons (kil l h) (kil l t)
  | .tup ps => .tup (kil l ps)
  | .fn f caps => .fn f (kil l caps)
  | d => d
def kilB (l : Nat) : Bk → Bk
  | .one d => .one (kil l d)
  | .row L T sz => .row L T sz
def kilH (l : Nat) (h : List (Option Bk)) : List (Option Bk) := h.map (Option.map (kilB l))
theorem nc_kil (l : Nat) (d : D) : nc (kil l d) = nc d := by
  induction d with
  | cons h t ih1 ih2 => simp only [kil, nc, ih1, ih2]
  | ptr l' o => simp only [kil]; split <;> rfl
  | own => simp only [kil]; split <;> rfl
  | osl => simp only [kil]; split <;> rfl
  | _ => rfl
theorem cell_kil (l : Nat) (d : D) : ∀ i, cell (kil l d) i = kil l (cell d i) := by
  induction d with
  | cons h t ih1 ih2 =>
    intro i
    simp only [kil, cell, nc_kil]
    split
    · exact ih1 i
    · exact ih2 _
  | ptr l' o => intro i; simp only [kil, cell]; split <;> rfl
  | own => intro i; simp only [kil, cell]; split <;> rfl
  | osl => intro i; simp only [kil, cell]; split <;> rfl
  | fn f caps _ => intro i; rfl
  | tup ps _ => intro i; rfl
  | _ => intro i; rfl
/-- .. but for the l-th block -/
structure ExtK (C : Cx) (l : Nat) (w : World) (bs : List (Option Nat)) (w' : World) (bs' : List (Option Nat)) : Prop where
  im : ∀ b, Sf C w bs b → Sf C w' bs' b ∧ w'.heap[b]? = w.heap[b]?
  ow : ∀ (i b : Nat), i ≠ l → bs[i]? = some (some b) → bs'[i]? = some (some b) ∧ w'.shape? b = w.shape? b
theorem RI.kil {w : World} {S : Nat → Prop} {x : Value} {d : D} (l : Nat) (h : RI w S x d) : RI w S x (kil l d) := by
  induction h with
  | fn hn _ ih => exact .fn (by rw [nc_kil]; exact hn) fun i hi => by rw [cell_kil]; exact ih i hi
  | v h => exact .v h
  | sl0 => exact .sl0
  | sl sz xs hb hcap hs hx hc _ => exact .sl sz xs hb hcap hs hx hc
  | ip xs hb hx hc _ => exact .ip xs hb hx hc
  | dead h => exact .dead h
theorem R1.kilE {C : Cx} {l : Nat} {w w' : World} {bs bs' : List (Option Nat)} (hE : ExtK C l w bs w' bs') {x : Value} {d : D} (h : R1 C w bs x d) : R1 C w' bs' x (kil l d) := by
  induction h with
  | im h => exact .im ((h.mono hE.im).kil l)
  | ptr h =>
    simp only [kil]
    split
    · exact .im (.dead rfl)
    · rename_i hne; exact .ptr (hE.ow _ _ hne h).1
  | own h hs hn hc =>
    simp only [kil]
    split
    · exact .im (.dead rfl)
    · rename_i hne; exact .own (hE.ow _ _ hne h).1 ((hE.ow _ _ hne h).2.trans hs) hn hc
  | own0 =>
    simp only [kil]
    split
    · exact .im (.dead rfl)
    · exact .own0
  | osl0 =>
    simp only [kil]
    split
    · exact .im (.dead rfl)
    · exact .osl0
  | osl h hn =>
    simp only [kil]
    split
    · exact .im (.dead rfl)
    · rename_i hne; exact .osl (hE.ow _ _ hne h).1 hn
  | fn hn _ ih => exact .fn (by rw [nc_kil]; exact hn) fun i hi => by rw [cell_kil]; exact ih i hi
theorem RG0.kilE {C : Cx} {l : Nat} {w w' : World} {bs bs' : List (Option Nat)} (hE : ExtK C l w bs w' bs') {x : Value} {d : D} (h : RG0 (R1 C w bs) x d) : RG0 (R1 C w' bs') x (kil l d) := by
  cases d with
  | arr k n f => obtain ⟨cs, a, b, c⟩ := h; exact ⟨cs, a, b, fun i hi => by have := (c i hi).kilE hE; exact this⟩
  | nil => exact h
  | cons p q =>
    obtain ⟨cs, a, b, c⟩ := h
    refine ⟨cs, a, ?_, fun i hi => ?_⟩
    · have := nc_kil l (.cons p q); simp only [kil] at this; rw [this]; exact b
    · have h1 := (c i hi).kilE hE
      rw [← cell_kil] at h1
      exact h1
  | tup ps => exact h.elim
  | dead => trivial
  | v u => exact R1.kilE hE h
  | sl => exact R1.kilE (d := .sl _ _ _) hE h
  | ip => exact R1.kilE (d := .ip _) hE h
  | fn => exact R1.kilE (d := .fn _ _) hE h
  | ptr l' o =>
    have := R1.kilE (d := .ptr l' o) hE h
    simp only [kil] at this ⊢
    split
    · trivial
    · rename_i hne; rw [if_neg hne] at this; exact this
  | own l' n T sz =>
    have := R1.kilE (d := .own l' n T sz) hE h
    simp only [kil] at this ⊢
    split
    · trivial
    · rename_i hne; rw [if_neg hne] at this; exact this
  | osl l' o n =>
    have := R1.kilE (d := .osl l' o n) hE h
    simp only [kil] at this ⊢
    split
    · trivial
    · rename_i hne; rw [if_neg hne] at this; exact this
theorem TG.kilE {C : Cx} {l : Nat} {w w' : World} {bs bs' : List (Option Nat)} (hE : ExtK C l w bs w' bs') : ∀ {d : D} {vs : List Value}, TG (R1 C w bs) vs d → TG (R1 C w' bs') vs (kil l d)
  | .nil, [], _ => trivial
  | .cons _ _, _ :: _, h => ⟨h.1.kilE hE, TG.kilE hE h.2⟩
  | .cons _ _, [], h => h.elim
  | .nil, _ :: _, h => h.elim
  | .v _, [], h => h.elim
  | .v _, _ :: _, h => h.elim
  | .arr .., [], h => h.elim
  | .arr .., _ :: _, h => h.elim
  | .tup _, [], h => h.elim
  | .tup _, _ :: _, h => h.elim
  | .sl .., [], h => h.elim
  | .sl .., _ :: _, h => h.elim
  | .ip _, [], h => h.elim
  | .ip _, _ :: _, h => h.elim
  | .ptr .., [], h => h.elim
  | .ptr .., _ :: _, h => h.elim
  | .own .., [], h => h.elim
  | .own .., _ :: _, h => h.elim
  | .osl .., [], h => h.elim
  | .osl .., _ :: _, h => h.elim
  | .fn .., [], h => h.elim
  | .fn .., _ :: _, h => h.elim
  | .dead, [], h => h.elim
  | .dead, _ :: _, h => h.elim
theorem RV.kilE {C : Cx} {l : Nat} {w w' : World} {bs bs' : List (Option Nat)} (hE : ExtK C l w bs w' bs') {x : Value} {d : D} (h : RV C w bs x d) : RV C w' bs' x (kil l d) := by
  cases d with
  | tup ps => obtain ⟨vs, a, b⟩ := h; exact ⟨vs, a, b.kilE hE⟩
  | _ =>
    simp only [RV, RG] at h
    have := RG0.kilE hE h
    simp only [kil] at this ⊢
    first | exact this | (split <;> first | trivial | (rename_i hne; simp only [hne, if_false] at this; exact this))
theorem BR.kilE {C : Cx} {l : Nat} {w w' : World} {bs bs' : List (Option Nat)} (hE : ExtK C l w bs w' bs') {b : Nat} (hb : w'.heap[b]? = w.heap[b]?) {k : Bk} (h : BR C w bs b k) : BR C w' bs' b (kilB l k) := by
  cases k with
  | one d => obtain ⟨cs, T, fz, h1, h2, h3, h4⟩ := h; exact ⟨cs, T, fz, hb.trans h1, by rw [nc_kil]; exact h2, h3, fun i hi => by rw [cell_kil]; exact (h4 i hi).kilE hE⟩
  | row L T sz =>
    obtain ⟨cs, fz, h1, h2, h3, h4, h5⟩ := h
    refine ⟨cs, fz, hb.trans h1, h2, h3, h4, fun i j hi hj => ?_⟩
    obtain ⟨x, hx, hr⟩ := h5 i j hi hj
    exact ⟨x, hx, hr.mono hE.im⟩

/-- leads to no own block -/
def pureD : D → Bool
  | .ptr .. | .own .. | .osl .. | .fn .. => false
  | .cons h t => pureD h && pureD t
  | .tup ps => pureD ps
  | _ => true
theorem pure_cell {d : D} (h : pureD d = true) : ∀ i, pureD (cell d i) = true := by
  induction d with
  | cons a b ih1 ih2 =>
    intro i
    simp only [pureD, Bool.and_eq_true] at h
    simp only [cell]
    split
    · exact ih1 h.1 i
    · exact ih2 h.2 _
  | arr => intro i; rfl
  | nil => intro i; rfl
  | v => intro i; rfl
  | sl => intro i; rfl
  | ip => intro i; rfl
  | dead => intro i; rfl
  | tup => intro i; exact h
  | ptr => cases h
  | own => cases h
  | osl => cases h
  | fn => cases h
theorem R1.pure {C : Cx} {w : World} {bs : List (Option Nat)} {x : Value} {d : D} (h : R1 C w bs x d) (hd : pureD d = true) : RI w (Sf C w bs) x d := by
  cases h with
  | im h => exact h
  | ptr h => cases hd
  | own => cases hd
  | own0 => cases hd
  | osl0 => cases hd
  | osl => cases hd
  | fn => cases hd
end Go.Proofs.YtpibemolnjmgoaaDoor
