/- A struct argument by value is opened into its parts, for every argument that can be read. -/
import Derived.Test.YtpibemolnjmgoaaRows
import Derived.WalkKit
import Derived.ProofKit
import Derived.OpenShut
import Derived.ShutString
import Derived.ChangeOld
import Derived.Below
namespace Go.Proofs.Ytpibemolnjmgoaa
open Go.ChangeShapes Go.WideShapes Go.ChangeAt Go.RowKit

/-- the fields lie one behind the other -/
def contig (P : Program) : List Field → Nat → Bool
  | [], _ => true
  | f :: fs, off => f.offset == off && contig P fs (off + P.cellsOf f.type)
def total (P : Program) : List Field → Nat
  | [] => 0
  | f :: fs => P.cellsOf f.type + total P fs

def Parts (P : Program) (R : TypeId → List Value → Prop) : List Field → List Value → Prop
  | [], cs => cs = []
  | f :: fs, cs => ∃ c r, cs = c ++ r ∧ c.length = P.cellsOf f.type ∧ R f.type c ∧ Parts P R fs r

theorem parts_of {P : Program} {R : TypeId → List Value → Prop} {cs : List Value} : ∀ (fs : List Field) (off : Nat), contig P fs off = true → off + total P fs = cs.length →
    (∀ f ∈ fs, R f.type ((cs.drop f.offset).take (P.cellsOf f.type))) → Parts P R fs (cs.drop off)
  | [], off, _, hl, _ => by
    simp only [Parts]
    simp only [total] at hl
    exact List.drop_eq_nil_of_le (by omega)
  | f :: fs, off, hc, hl, h => by
    simp only [contig, Bool.and_eq_true, beq_iff_eq] at hc
    simp only [total] at hl
    have hf := h f (by simp)
    rw [hc.1] at hf
    refine ⟨(cs.drop off).take (P.cellsOf f.type), cs.drop (off + P.cellsOf f.type), ?_, ?_, hf, parts_of fs _ hc.2 (by omega) fun g hg => h g (by simp [hg])⟩
    · rw [← List.drop_drop, List.take_append_drop]
    · rw [List.length_take, List.length_drop]; omega

section
variable {H : Type} {enc : TypeId × Value → H} {P : Program} {w : World} {base : Nat} {spare : Nat → Bool} {held : Bool}
theorem trod_parts {t : TypeId} {fs : Array Field} {fuel : Nat} {cs : List Value} {x : DataW H × List MemPlace} (hs : P.underlying t = some (.struct fs)) (hc : contig P fs.toList 0 = true) (ht : total P fs.toList = P.cellsOf t)
    (h : DataW.trod enc P w base spare held fuel t cs = some x) :
    ∃ n, Parts P (fun t c => ∃ y, DataW.trod enc P w base spare held n t c = some y) fs.toList cs := by
  obtain ⟨xs, n, _, _, hl, hx, hf⟩ := DataW.trod_struct hs h
  refine ⟨n, ?_⟩
  have := parts_of (P := P) (R := fun t c => ∃ y, DataW.trod enc P w base spare held n t c = some y) (cs := cs) fs.toList 0 hc (by omega) (fun f hm => by
    obtain ⟨i, hi⟩ := List.getElem?_of_mem hm
    have hi' : fs[i]? = some f := by simpa using hi
    rw [hf i f hi']
    have : i < xs.length := by rw [hx]; exact (Array.getElem?_eq_some_iff.1 hi').1
    exact ⟨xs[i], List.getElem?_eq_getElem this⟩)
  simpa using this
end

theorem move_opens {H : Type} {enc : TypeId × Value → H} {w : World} {r : Reach} {b0 base : Nat} {spare : Nat → Bool} {held : Bool} {v : Value} {d : DataW H} {p : List MemPlace}
    (hv : Value.okWide Try.prog w r b0 23 v) (h : DataW.Trod enc Try.prog w base spare held 23 v d p) :
    ∃ (x0 x1 x2 x3 : ByteArray) (x4 x5 x6 x7 x8 : Bool), v = .agg #[.string x0, .string x1, .string x2, .string x3, .bool x4, .bool x5, .bool x6, .bool x7, .bool x8] := by
  obtain ⟨cs, rfl, hsz⟩ := okWide_struct Try.underlying23 hv
  obtain ⟨fuel, hf⟩ := h
  obtain ⟨n, hp⟩ := trod_parts Try.underlying23 (by kernel_rfl) (by kernel_rfl) hf
  simp only [Parts] at hp
  obtain ⟨c0, _, e0, _, ⟨y0, h0⟩, c1, _, rfl, _, ⟨y1, h1⟩, c2, _, rfl, _, ⟨y2, h2⟩, c3, _, rfl, _, ⟨y3, h3⟩, c4, _, rfl, _, ⟨y4, h4⟩, c5, _, rfl, _, ⟨y5, h5⟩, c6, _, rfl, _, ⟨y6, h6⟩, c7, _, rfl, _, ⟨y7, h7⟩, c8, _, rfl, _, ⟨y8, h8⟩, rfl⟩ := hp
  obtain ⟨x0, rfl, _⟩ := DataW.trod_string Try.underlying9 h0
  obtain ⟨x1, rfl, _⟩ := DataW.trod_string Try.underlying9 h1
  obtain ⟨x2, rfl, _⟩ := DataW.trod_string Try.underlying9 h2
  obtain ⟨x3, rfl, _⟩ := DataW.trod_string Try.underlying9 h3
  obtain ⟨x4, rfl, _⟩ := DataW.trod_bool Try.underlying4 h4
  obtain ⟨x5, rfl, _⟩ := DataW.trod_bool Try.underlying4 h5
  obtain ⟨x6, rfl, _⟩ := DataW.trod_bool Try.underlying4 h6
  obtain ⟨x7, rfl, _⟩ := DataW.trod_bool Try.underlying4 h7
  obtain ⟨x8, rfl, _⟩ := DataW.trod_bool Try.underlying4 h8
  refine ⟨x0, x1, x2, x3, x4, x5, x6, x7, x8, ?_⟩
  simp [Value.cells] at e0
  exact congrArg Value.agg (Array.ext' e0)
end Go.Proofs.Ytpibemolnjmgoaa
