/- A pointer compared with nil; calls that read through a pointer to an own block. It speaks of no program of ours. -/
import Derived.Test.YtedioenakmgdiaaDoorBPD
import Derived.Laws.Pointers
namespace Go.Proofs.YtedioenakmgdiaaDoor
set_option linter.unusedSimpArgs false
set_option linter.unusedVariables false
set_option maxRecDepth 10000
open Go.RowKit
theorem Le_ptr {h : List (Option Bk)} {l : Nat} {d : D} (hl : h[l]? = some (some (.one d))) (hp : pureD d = true) : Le h (.ptr l 0) (.ip d) := fun C w bs x hw hx => by
  have hx' : R1 C w bs x (.ptr l 0) := hx
  show RI w _ x (.ip d)
  cases hx' with
  | im hi => cases hi
  | @ptr _ _ b hb =>
    rcases hw.blk l _ hl with ⟨b', hb', hB⟩ | ⟨_, _, h0, _⟩
    · have : b' = b := by rw [hb] at hb'; injection hb' with h1; injection h1 with h2; exact h2.symm
      subst this
      obtain ⟨cs, T, fz, g1, g2, g3, g4⟩ := hB
      have hlt : b' < w.heap.size := (Array.getElem?_eq_some_iff.1 g1).1
      refine .ip (fun j => cs.getD j undef) hlt (fun j hj => ?_) (fun j hj => ?_)
      · have hj' : j < cs.size := by omega
        simp [World.cell?, g1, hj']
      · have hj' : j < cs.size := by omega
        have := (g4 j hj').pure (pure_cell hp j)
        simp only [Array.getD_eq_getD_getElem?, Array.getElem?_eq_getElem hj', Option.getD_some]
        exact this.mono fun b hb => ⟨hb.2.1, rfl⟩
    · cases h0
section
variable {E : Env} {C : Cx} {ops : Array Oper} {K : St → Prop} {o : Oper} {rest : List Oper} {s : Nat → D} {h : List (Option Bk)} {op : BinOp} {ty u : Nat} {x y : Operand} {d d0 : D} {r r' : Bool} {l : Nat} {f : FuncId} {g : Operand} {args : Array Operand} {ts : Array TypeId}
end
end Go.Proofs.YtedioenakmgdiaaDoor
