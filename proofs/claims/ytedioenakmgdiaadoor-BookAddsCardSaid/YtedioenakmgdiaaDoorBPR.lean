/- Rings, made; a key's root. A ring signs; a key signs. A key signs, as the document says. -/
import Derived.Test.YtedioenakmgdiaaDoorBPD
import Derived.Test.YtedioenakmgdiaaDoorBPQ
import Derived.Test.YtedioenakmgdiaaDoorBPU
namespace Go.Proofs.YtedioenakmgdiaaDoor
set_option linter.unusedSimpArgs false
set_option linter.unusedVariables false
set_option maxRecDepth 10000
open Go.RowKit
/-- nil somewhere in a block, as an own row without elements -/
def CellLe (d d' : D) : Prop := nc d' = nc d ∧ ∀ (C : Cx) (w : World) (bs : List (Option Nat)) (x : Value) (i : Nat), i < nc d → R1 C w bs x (cell d i) → R1 C w bs x (cell d' i)
theorem CellLe.refl (d : D) : CellLe d d := ⟨rfl, fun _ _ _ _ _ _ h => h⟩
theorem CellLe.nil (l T sz : Nat) : CellLe (.v (.slice none 0 0)) (.own l 0 T sz) := ⟨rfl, fun C w bs x i _ hx => by
  have hx' : RV C w bs x (.v (.slice none 0 0)) := hx
  show R1 C w bs x (.own l 0 T sz)
  rw [(RV_v hx').1]
  exact R1.own0⟩
theorem CellLe.cons {a a' b b' : D} (h : CellLe a a') (k : CellLe b b') : CellLe (.cons a b) (.cons a' b') := by
  refine ⟨by simp only [nc]; rw [h.1, k.1], fun C w bs x i hi hx => ?_⟩
  have hi' : i < nc a + nc b := hi
  by_cases h0 : i < nc a
  · have a1 : cell (.cons a b) i = cell a i := if_pos h0
    have a2 : cell (.cons a' b') i = cell a' i := if_pos (by rw [h.1]; exact h0)
    rw [a1] at hx
    rw [a2]
    exact h.2 C w bs x i h0 hx
  · have a1 : cell (.cons a b) i = cell b (i - nc a) := if_neg h0
    have a2 : cell (.cons a' b') i = cell b' (i - nc a) := by
      have : cell (.cons a' b') i = cell b' (i - nc a') := if_neg (by rw [h.1]; exact h0)
      rw [this, h.1]
    rw [a1] at hx
    rw [a2]
    exact k.2 C w bs x _ (by omega) hx
end Go.Proofs.YtedioenakmgdiaaDoor

namespace Go.Proofs.YtedioenakmgdiaaDoor
set_option linter.unusedSimpArgs false
set_option linter.unusedVariables false
set_option maxRecDepth 10000
open Go.RowKit
end Go.Proofs.YtedioenakmgdiaaDoor

namespace Go.Proofs.YtedioenakmgdiaaDoor
set_option linter.unusedSimpArgs false
set_option linter.unusedVariables false
set_option maxRecDepth 10000
open Go.RowKit
/-! ### the document's ring -/
end Go.Proofs.YtedioenakmgdiaaDoor
