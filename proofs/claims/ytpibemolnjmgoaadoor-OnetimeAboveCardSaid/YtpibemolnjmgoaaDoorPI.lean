/- From a reading of an argument to the data that it stands for. It speaks of no program of ours. What a row's list gives: the two tables of sha hold their numbers. -/
import Derived.Test.YtpibemolnjmgoaaDoorPB
import Derived.Lib.LaidTab
import Derived.Stop.LaidErr
import Derived.ChangeMaps5
import Derived.Test.YtpibemolnjmgoaaDoorPD
import Derived.Test.YtpibemolnjmgoaaDoorRows
import Derived.LaidLaws
namespace Go.Proofs.YtpibemolnjmgoaaDoor
set_option linter.unusedSimpArgs false
set_option linter.unusedVariables false
set_option maxRecDepth 10000
open Go.RowKit Go.ChangeShapes Go.WideShapes

section
variable {P : Program} {H : Type} {enc : TypeId × Value → H} {W : World} {base : Nat} {sp : Nat → Bool} {held : Bool}

/-- an array of bytes -/
theorem read_bytes {t e n : Nat} (ht : P.underlying t = some (.array n e)) (he : P.underlying e = some (.int .u8)) (hce : P.cellsOf e = 1) (hct : P.cellsOf t = n) {r : Reach} {b0 : Nat} {v : Value} {d : DataW H} {ps : List MemPlace} (hval : Value.okWide P W r b0 t v) (hd : DataW.Trod enc P W base sp held t v d ps) (S : Nat → Prop) :
    ∃ h : List UInt8, h.length = n ∧ RVI W S v (.arr .u8 n (fun i => ((h.getD i 0).toNat : Int))) := by
  simp only [Value.okWide, ht] at hval
  obtain ⟨cs, rfl, hsz, _⟩ := hval
  obtain ⟨fuel, hf⟩ := hd
  cases fuel with
  | zero => simp [DataW.trod] at hf
  | succ m =>
    simp only [DataW.trod, ht, hce, hct, Nat.mul_one, Value.cells] at hf
    split at hf
    · rename_i hl
      obtain ⟨xs, hm, _⟩ := Option.map_eq_some_iff.1 hf
      have hcell : ∀ i (hi : i < cs.size), ∃ z : UInt8, cs[i] = .int .u8 (z.toNat : Int) := fun i hi => by
        have hr : (List.range n)[i]? = some i := List.getElem?_range (by simp at hl; omega)
        obtain ⟨b, _, hb⟩ := Lib.mapM_at hm i i hr
        obtain ⟨z, hc, _, hwf⟩ := DataW.trod_int he hb
        have h1 : cs[i] = .int .u8 z := by
          have := congrArg (·[0]?) hc
          simpa [List.getElem?_take, List.getElem?_drop, hi] using this
        have hz : 0 ≤ z ∧ z < 256 := by
          simp only [Lit.wf, IntKind.min, IntKind.max, IntKind.bits, IntKind.signed] at hwf
          simp at hwf
          omega
        refine ⟨UInt8.ofNat z.toNat, ?_⟩
        rw [h1, UInt8.toNat_ofNat']
        congr 1
        omega
      refine ⟨(List.range n).map fun i => byteOf (.v (cs.getD i undef)), by simp, cs, rfl, by omega, fun i hi => ?_⟩
      obtain ⟨z, hz⟩ := hcell i hi
      have hin : i < n := by omega
      have e : ((List.range n).map fun i => byteOf (.v (cs.getD i undef))).getD i 0 = z := by
        simp [List.getD_eq_getElem?_getD, hin, Array.getD_eq_getD_getElem?, hi, hz, byteOf]
      simp only [cell]
      rw [e, hz]
      exact .v rfl
    · cases hf

/-- a text -/
theorem read_text {t : Nat} (ht : P.underlying t = some .string) {r : Reach} {b0 : Nat} {v : Value} {d : DataW H} {ps : List MemPlace} (hval : Value.okWide P W r b0 t v) (hd : DataW.Trod enc P W base sp held t v d ps) (S : Nat → Prop) :
    ∃ l : List UInt8, RVI W S v (.v (.string (B l))) ∧ d = .lit (.string l) := by
  obtain ⟨s, rfl, rfl, _, _⟩ := Go.ChangeMaps.open_string ht hval hd
  refine ⟨L s, ?_, rfl⟩
  rw [B_L]
  exact RI.v rfl
end

/-- a variable that holds a table -/
theorem tab_RI {P : Program} {W : World} {name : String} {k : IntKind} {zs : List Int} {g N : Nat} (h : Lib.TabIs P W name k zs) (hg : P.globalNamed name = some g) (hgN : g < N) (f : Nat → Int) (hf : ∀ i, i < zs.length → f i = zs.getD i 0) :
    RI W (· < N) (.pointer (some ⟨g, 0, none⟩)) (.ip (.arr k zs.length f)) := by
  refine .ip (fun j => .int k (f j)) hgN (fun j hj => ?_) (fun j hj => ?_)
  · rw [hf j hj, Nat.zero_add]
    exact h.cell hg j hj
  · exact .v rfl
end Go.Proofs.YtpibemolnjmgoaaDoor

namespace Go.Proofs.YtpibemolnjmgoaaDoor
set_option linter.unusedSimpArgs false
set_option linter.unusedVariables false
set_option maxRecDepth 10000
open Go.RowKit Go.ChangeShapes Go.WideShapes
def beginT : List UInt32 := [0x6a09e667, 0xbb67ae85, 0x3c6ef372, 0xa54ff53a, 0x510e527f, 0x9b05688c, 0x1f83d9ab, 0x5be0cd19]
def numsT (l : List UInt32) : List Int := l.map fun x => (x.toNat : Int)
theorem g_k : Tryd.prog.globalNamed "palaver/sha.k" = some 1 := by kernel_rfl
theorem g_begin : Tryd.prog.globalNamed "palaver/sha.begin" = some 0 := by kernel_rfl
theorem laid_k {H : Type} : (Rows.laid_palaver_sha_k : DataW H) = Lib.tabData .u32 (numsT kT) := rfl
theorem laid_begin {H : Type} : (Rows.laid_palaver_sha_begin : DataW H) = Lib.tabData .u32 (numsT beginT) := rfl
def laidL : List (String × DataW Unit) := [("palaver/sha.k", Rows.laid_palaver_sha_k), ("palaver/sha.begin", Rows.laid_palaver_sha_begin)]
theorem laid_both {W : World} (h : laidMetH Tryd.prog laidL W) : Lib.TabIs Tryd.prog W "palaver/sha.k" .u32 (numsT kT) ∧ Lib.TabIs Tryd.prog W "palaver/sha.begin" .u32 (numsT beginT) := by
  have h1 : laidMet Tryd.prog laidL W := h
  refine ⟨Lib.tabIs_of_head (rest := [("palaver/sha.begin", Rows.laid_palaver_sha_begin)]) (n := 64) (t := 47) (e := 40) g_k (by kernel_rfl) (by kernel_rfl) (by kernel_rfl) (by kernel_rfl) (by kernel_rfl) h1, Lib.tabIs_of_head (rest := []) (n := 8) (t := 42) (e := 40) g_begin (by kernel_rfl) (by kernel_rfl) (by kernel_rfl) (by kernel_rfl) (by kernel_rfl) h1.tail⟩
theorem nums_at (l : List UInt32) (i : Nat) : ((l.getD i 0).toNat : Int) = (numsT l).getD i 0 := by
  simp only [numsT, List.getD_eq_getElem?_getD, List.getElem?_map]
  cases l[i]? <;> rfl
theorem laid_gn {W : World} (h : laidMetH Tryd.prog laidL W) : ∀ b, b < (envOf Tryd.prog).gN → b < W.heap.size := by
  intro b hb
  have hb' : b < 2 := hb
  have := (laid_both h).1.cell g_k 0 (by decide)
  have h1 : 1 < W.heap.size := by
    rcases Nat.lt_or_ge 1 W.heap.size with h | h
    · exact h
    · unfold World.cell? at this
      rw [Array.getElem?_eq_none h] at this
      cases this
  omega
theorem laid_gok {W : World} (h : laidMetH Tryd.prog laidL W) : Gok (envOf Tryd.prog) W := by
  obtain ⟨hk, hb⟩ := laid_both h
  refine ⟨⟨?_, fun g hg _ => ?_⟩, tyT_ok, env_mix⟩
  · have := laid_gn h 1 (by decide)
    exact this
  · have hg' : g < 2 := hg
    rcases (show g = 0 ∨ g = 1 by omega) with rfl | rfl
    · exact tab_RI hb g_begin (by decide) _ (fun i _ => nums_at beginT i)
    · exact tab_RI hk g_k (by decide) _ (fun i _ => nums_at kT i)
/-- a world that holds the tables -/
def putNums (l : List UInt32) : Obj → Obj
  | .cells _ t frozen => .cells ((numsT l).map fun z => Value.int .u32 z).toArray t frozen
  | o => o
noncomputable def laidWorld (os : Os) : World :=
  { World.holding Tryd.prog os ⟨#[], #[], []⟩ with heap := ((World.holding Tryd.prog os ⟨#[], #[], []⟩).heap.modify 0 (putNums beginT)).modify 1 (putNums kT) }
end Go.Proofs.YtpibemolnjmgoaaDoor
