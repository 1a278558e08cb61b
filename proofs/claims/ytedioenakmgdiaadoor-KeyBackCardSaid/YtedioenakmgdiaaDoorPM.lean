/- Keys, and lists of texts, as they are given. -/
import Derived.Test.YtedioenakmgdiaaDoorPQ
import Derived.Test.YtedioenakmgdiaaDoorPI
namespace Go.Proofs.YtedioenakmgdiaaDoor
set_option linter.unusedSimpArgs false
set_option linter.unusedVariables false
set_option maxRecDepth 10000
open Go.RowKit Go.ChangeShapes Go.WideShapes
section
variable {H : Type} {enc : TypeId × Value → H} {W : World} {base : Nat} {sp : Nat → Bool} {held : Bool} {r : Reach} {b0 : Nat} {v : Value} {d : DataW H} {ps : List MemPlace}
theorem read_key (hval : Value.okWide Tryd.prog W r b0 43 v) (hd : DataW.Trod enc Tryd.prog W base sp held 43 v d ps) :
    ∃ (s : List UInt8) (h n : Int), ((-9223372036854775808 ≤ h ∧ h ≤ 9223372036854775807) ∧ -9223372036854775808 ≤ n ∧ n ≤ 9223372036854775807) ∧ RVI W (fun b => b < W.heap.size) v (keyD s h n) := by
  obtain ⟨⟨s, h, n, _⟩, ⟨_, g1, g2, _⟩, hR⟩ := read_struct (t := 43) Tryd.underlying43 (fun _ => rfl)
    (elem_struct (N := 3) Tryd.underlying43 (by kernel_rfl)
      (FldR.cons (sz := 1) rfl (by kernel_rfl) (by decide) (elem_text Tryd.underlying9 (by kernel_rfl))
        (FldR.cons (sz := 1) rfl (by kernel_rfl) (by decide) (elem_int Tryd.underlying3 (by kernel_rfl))
          (FldR.cons (sz := 1) rfl (by kernel_rfl) (by decide) (elem_int Tryd.underlying3 (by kernel_rfl)) FldR.nil)))) hval hd
  exact ⟨s, h, n, ⟨wf_i64 g1, wf_i64 g2⟩, hR⟩
def txD (t : List UInt8) : D := .v (.string (B t))
def txsD (ts : List (List UInt8)) : D := .sl ts ([] : List UInt8) txD
theorem txsD_eq (ts : List (List UInt8)) : txsD ts = .sl ts ([] : List UInt8) txD := rfl
theorem txD_eq (t : List UInt8) : txD t = .v (.string (B t)) := rfl
theorem read_texts (hval : Value.okWide Tryd.prog W r b0 37 v) (hd : DataW.Trod enc Tryd.prog W base sp held 37 v d ps) :
    ∃ ts : List (List UInt8), ts.length ≤ maxLen ∧ RVI W (fun b => b < W.heap.size) v (txsD ts) := by
  obtain ⟨l, _, h, hR⟩ := read_slice ([] : List UInt8) txD (fun _ => True) Tryd.underlying37 (by rw [show Tryd.prog.cellsOf 9 = 1 by kernel_rfl]; decide) (elem_text Tryd.underlying9 (by kernel_rfl)) hval hd
  exact ⟨l, h, hR⟩
end
end Go.Proofs.YtedioenakmgdiaaDoor
