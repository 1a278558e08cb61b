/- What a row's list gives: the two tables of sha hold their numbers. -/
import Derived.Test.YtpibemolnjmgoaaDoorFa
import Derived.Test.YtpibemolnjmgoaaDoorEnv
import Derived.Test.YtpibemolnjmgoaaDoorRows
import Derived.LaidLaws
namespace Go.Proofs.YtpibemolnjmgoaaDoor
set_option linter.unusedSimpArgs false
set_option linter.unusedVariables false
open Go.RowKit Go.ChangeShapes Go.WideShapes
def beginT : List UInt32 := [0x6a09e667, 0xbb67ae85, 0x3c6ef372, 0xa54ff53a, 0x510e527f, 0x9b05688c, 0x1f83d9ab, 0x5be0cd19]
def numsT (l : List UInt32) : List Int := l.map fun x => (x.toNat : Int)
theorem g_k : Tryd.prog.globalNamed "palaver/sha.k" = some 1 := by kernel_rfl
theorem g_begin : Tryd.prog.globalNamed "palaver/sha.begin" = some 0 := by kernel_rfl
theorem laid_k {H : Type} : (Rows.laid_palaver_sha_k : DataW H) = Lib.tabData .u32 (numsT kT) := rfl
theorem laid_begin {H : Type} : (Rows.laid_palaver_sha_begin : DataW H) = Lib.tabData .u32 (numsT beginT) := rfl
def laidL : List (String × DataW Unit) := [("palaver/sha.k", Rows.laid_palaver_sha_k), ("palaver/sha.begin", Rows.laid_palaver_sha_begin)]
theorem laid_both {W : World} (h : laidMetH Tryd.prog laidL W) : Lib.TabIs Tryd.prog W "palaver/sha.k" .u32 (numsT kT) ∧ Lib.TabIs Tryd.prog W "palaver/sha.begin" .u32 (numsT beginT) := by
  have h1 : laidMet Tryd.prog laidL W := h
  refine ⟨Lib.tabIs_of_head (rest := [("palaver/sha.begin", Rows.laid_palaver_sha_begin)]) (n := 64) (t := 47) (e := 40) g_k (by kernel_rfl) (by kernel_rfl) (by kernel_rfl) (by kernel_rfl) (by kernel_rfl) h1, Lib.tabIs_of_head (rest := []) (n := 8) (t := 42) (e := 40) g_begin (by kernel_rfl) (by kernel_rfl) (by kernel_rfl) (by kernel_rfl) (by kernel_rfl) h1.tail⟩
theorem nums_at (l : List UInt32) (i : Nat) : ((l.getD i 0).toNat : Int) = (numsT l).getD i 0 := by
  simp only [numsT, List.getD_eq_getElem?_getD, List.getElem?_map]
  cases l[i]? <;> rfl
theorem laid_gn {W : World} (h : laidMetH Tryd.prog laidL W) : ∀ b, b < (envOf Tryd.prog).gN → b < W.heap.size := by
  intro b hb
  have hb' : b < 2 := hb
  have := (laid_both h).1.cell g_k 0 (by decide)
  have h1 : 1 < W.heap.size := by
    rcases Nat.lt_or_ge 1 W.heap.size with h | h
    · exact h
    · unfold World.cell? at this
      rw [Array.getElem?_eq_none h] at this
      cases this
  omega
theorem laid_gok {W : World} (h : laidMetH Tryd.prog laidL W) : Gok (envOf Tryd.prog) W := by
  obtain ⟨hk, hb⟩ := laid_both h
  refine ⟨⟨?_, fun g hg _ => ?_⟩, tyT_ok, env_mix⟩
  · have := laid_gn h 1 (by decide)
    exact this
  · have hg' : g < 2 := hg
    rcases (show g = 0 ∨ g = 1 by omega) with rfl | rfl
    · exact tab_RI hb g_begin (by decide) _ (fun i _ => nums_at beginT i)
    · exact tab_RI hk g_k (by decide) _ (fun i _ => nums_at kT i)
/-- a world that holds the tables -/
def putNums (l : List UInt32) : Obj → Obj
  | .cells _ t frozen => .cells ((numsT l).map fun z => Value.int .u32 z).toArray t frozen
  | o => o
noncomputable def laidWorld (os : Os) : World :=
  { World.holding Tryd.prog os ⟨#[], #[], []⟩ with heap := ((World.holding Tryd.prog os ⟨#[], #[], []⟩).heap.modify 0 (putNums beginT)).modify 1 (putNums kT) }
end Go.Proofs.YtpibemolnjmgoaaDoor
