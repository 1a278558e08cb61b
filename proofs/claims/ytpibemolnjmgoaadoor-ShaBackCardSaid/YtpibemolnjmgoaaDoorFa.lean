/- From a reading of an argument to the data that it stands for. It speaks of no program of ours. -/
import Derived.Test.YtpibemolnjmgoaaDoorDq
import Derived.Lib.LaidTab
import Derived.Stop.LaidErr
import Derived.ChangeMaps5
namespace Go.Proofs.YtpibemolnjmgoaaDoor
set_option linter.unusedSimpArgs false
set_option linter.unusedVariables false
open Go.RowKit Go.ChangeShapes Go.WideShapes

section
variable {P : Program} {H : Type} {enc : TypeId × Value → H} {W : World} {base : Nat} {sp : Nat → Bool} {held : Bool}

/-- an array of bytes -/
theorem read_bytes {t e n : Nat} (ht : P.underlying t = some (.array n e)) (he : P.underlying e = some (.int .u8)) (hce : P.cellsOf e = 1) (hct : P.cellsOf t = n) {r : Reach} {b0 : Nat} {v : Value} {d : DataW H} {ps : List MemPlace} (hval : Value.okWide P W r b0 t v) (hd : DataW.Trod enc P W base sp held t v d ps) (S : Nat → Prop) :
    ∃ h : List UInt8, h.length = n ∧ RVI W S v (.arr .u8 n (fun i => ((h.getD i 0).toNat : Int))) := by
  simp only [Value.okWide, ht] at hval
  obtain ⟨cs, rfl, hsz, _⟩ := hval
  obtain ⟨fuel, hf⟩ := hd
  cases fuel with
  | zero => simp [DataW.trod] at hf
  | succ m =>
    simp only [DataW.trod, ht, hce, hct, Nat.mul_one, Value.cells] at hf
    split at hf
    · rename_i hl
      obtain ⟨xs, hm, _⟩ := Option.map_eq_some_iff.1 hf
      have hcell : ∀ i (hi : i < cs.size), ∃ z : UInt8, cs[i] = .int .u8 (z.toNat : Int) := fun i hi => by
        have hr : (List.range n)[i]? = some i := List.getElem?_range (by simp at hl; omega)
        obtain ⟨b, _, hb⟩ := Lib.mapM_at hm i i hr
        obtain ⟨z, hc, _, hwf⟩ := DataW.trod_int he hb
        have h1 : cs[i] = .int .u8 z := by
          have := congrArg (·[0]?) hc
          simpa [List.getElem?_take, List.getElem?_drop, hi] using this
        have hz : 0 ≤ z ∧ z < 256 := by
          simp only [Lit.wf, IntKind.min, IntKind.max, IntKind.bits, IntKind.signed] at hwf
          simp at hwf
          omega
        refine ⟨UInt8.ofNat z.toNat, ?_⟩
        rw [h1, UInt8.toNat_ofNat']
        congr 1
        omega
      refine ⟨(List.range n).map fun i => byteOf (.v (cs.getD i undef)), by simp, cs, rfl, by omega, fun i hi => ?_⟩
      obtain ⟨z, hz⟩ := hcell i hi
      have hin : i < n := by omega
      have e : ((List.range n).map fun i => byteOf (.v (cs.getD i undef))).getD i 0 = z := by
        simp [List.getD_eq_getElem?_getD, hin, Array.getD_eq_getD_getElem?, hi, hz, byteOf]
      simp only [cell]
      rw [e, hz]
      exact .v rfl
    · cases hf

/-- a text -/
theorem read_text {t : Nat} (ht : P.underlying t = some .string) {r : Reach} {b0 : Nat} {v : Value} {d : DataW H} {ps : List MemPlace} (hval : Value.okWide P W r b0 t v) (hd : DataW.Trod enc P W base sp held t v d ps) (S : Nat → Prop) :
    ∃ l : List UInt8, RVI W S v (.v (.string (B l))) ∧ d = .lit (.string l) := by
  obtain ⟨s, rfl, rfl, _, _⟩ := Go.ChangeMaps.open_string ht hval hd
  refine ⟨L s, ?_, rfl⟩
  rw [B_L]
  exact RI.v rfl
end

/-- a variable that holds a table -/
theorem tab_RI {P : Program} {W : World} {name : String} {k : IntKind} {zs : List Int} {g N : Nat} (h : Lib.TabIs P W name k zs) (hg : P.globalNamed name = some g) (hgN : g < N) (f : Nat → Int) (hf : ∀ i, i < zs.length → f i = zs.getD i 0) :
    RI W (· < N) (.pointer (some ⟨g, 0, none⟩)) (.ip (.arr k zs.length f)) := by
  refine .ip (fun j => .int k (f j)) hgN (fun j hj => ?_) (fun j hj => ?_)
  · rw [hf j hj, Nat.zero_add]
    exact h.cell hg j hj
  · exact .v rfl
end Go.Proofs.YtpibemolnjmgoaaDoor
