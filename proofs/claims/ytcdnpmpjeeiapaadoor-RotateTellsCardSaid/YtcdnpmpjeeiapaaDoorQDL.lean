/- Grants, as they are given. Certs, as they are given. -/
import Derived.Test.YtcdnpmpjeeiapaaDoorQBA
import Derived.Test.YtcdnpmpjeeiapaaDoorQPI
import Derived.Test.YtcdnpmpjeeiapaaDoorQDA
set_option linter.unusedSimpArgs false
set_option linter.unusedVariables false
set_option maxRecDepth 10000
namespace Go.Proofs.YtcdnpmpjeeiapaaDoor
open Go.RowKit Go.ChangeShapes Go.WideShapes
section
variable {H : Type} {enc : TypeId × Value → H} {W : World} {base : Nat} {sp : Nat → Bool} {held : Bool} {r : Reach} {b0 : Nat} {v : Value} {d : DataW H} {ps : List MemPlace}
def grT (p : Int × Int × Int × Int × List UInt8 × Unit) : Gr := ⟨p.1, p.2.1, p.2.2.1, p.2.2.2.1, p.2.2.2.2.1⟩
theorem ql9 : jq8 Tryd.prog enc W base sp held (fun p => grD (grT p)) (fun p => ((Lit.int .i64 p.1).wf = true ∧ (Lit.int .i64 p.2.1).wf = true ∧ (Lit.int .i64 p.2.2.1).wf = true ∧ (Lit.int .i64 p.2.2.2.1).wf = true ∧ p.2.2.2.2.1.length = 32 ∧ True)) 25 :=
  have h := kj6 (enc := enc) (W := W) (base := base) (sp := sp) (held := held) (N := 36) Tryd.underlying25 (by kernel_rfl)
    (FldR.cons (sz := 1) rfl (by kernel_rfl) (by decide) (kd5 Tryd.underlying3 (by kernel_rfl))
      (FldR.cons (sz := 1) rfl (by kernel_rfl) (by decide) (kd5 Tryd.underlying2 (by kernel_rfl))
        (FldR.cons (sz := 1) rfl (by kernel_rfl) (by decide) (kd5 Tryd.underlying2 (by kernel_rfl))
          (FldR.cons (sz := 1) rfl (by kernel_rfl) (by decide) (kd5 Tryd.underlying3 (by kernel_rfl))
            (FldR.cons (sz := 32) rfl (by kernel_rfl) (by decide) (qr6 Tryd.underlying23 Tryd.underlying5 (by kernel_rfl) (by kernel_rfl) jg4 (fun h i _ => rfl) (fun h => rfl)) FldR.nil)))))
  h
theorem vc9 (hval : Value.okWide Tryd.prog W r b0 37 v) (hd : DataW.Trod enc Tryd.prog W base sp held 37 v d ps) :
    ∃ l : List Gr, (∀ x ∈ l, x.rt.length = 32) ∧ RVI W (fun b => b < W.heap.size) v (bkD l) := by
  have hel : jq8 Tryd.prog enc W base sp held grD (fun g : Gr => g.rt.length = 32) 25 := fun fuel cs y hf hl => by
    obtain ⟨p, hg, h1, h2⟩ := ql9 fuel cs y hf hl
    exact ⟨grT p, hg.2.2.2.2.1, h1, h2⟩
  obtain ⟨l, h, _, hR⟩ := kq2 gz grD (fun g : Gr => g.rt.length = 32) Tryd.underlying37 (by rw [show Tryd.prog.cellsOf 25 = 36 by kernel_rfl]; decide) hel hval hd
  exact ⟨l, h, hR⟩
end
end Go.Proofs.YtcdnpmpjeeiapaaDoor

namespace Go.Proofs.YtcdnpmpjeeiapaaDoor
open Go.RowKit Go.ChangeShapes Go.WideShapes
def ceW : Value := .agg #[.int .i64 0, .int .i64 0, .int .i64 0, .int .i64 0, .int .u8 0, .int .u8 0, .int .u8 0, .int .u8 0, .int .u8 0, .int .u8 0, .int .u8 0, .int .u8 0, .int .u8 0, .int .u8 0, .int .u8 0, .int .u8 0, .int .u8 0, .int .u8 0, .int .u8 0, .int .u8 0, .int .u8 0, .int .u8 0, .int .u8 0, .int .u8 0, .int .u8 0, .int .u8 0, .int .u8 0, .int .u8 0, .int .u8 0, .int .u8 0, .int .u8 0, .int .u8 0, .int .u8 0, .int .u8 0, .int .u8 0, .int .u8 0, .string ⟨#[]⟩]
def ceWD {H : Type} : DataW H := .agg [.agg [.lit (.int .i64 0), .lit (.int .i64 0), .lit (.int .i64 0), .lit (.int .i64 0), .agg (List.replicate 32 (.lit (.int .u8 0)))], .lit (.string [])]
section
variable {H : Type} {enc : TypeId × Value → H} {W : World} {base : Nat} {sp : Nat → Bool} {held : Bool} {r : Reach} {b0 : Nat} {v : Value} {d : DataW H} {ps : List MemPlace}
theorem qn9 : jq8 Tryd.prog enc W base sp held (fun p : (Int × Int × Int × Int × List UInt8 × Unit) × List UInt8 × Unit => ceD ⟨grT p.1, p.2.1⟩) (fun p => (((Lit.int .i64 p.1.1).wf = true ∧ (Lit.int .i64 p.1.2.1).wf = true ∧ (Lit.int .i64 p.1.2.2.1).wf = true ∧ (Lit.int .i64 p.1.2.2.2.1).wf = true ∧ p.1.2.2.2.2.1.length = 32 ∧ True)) ∧ True ∧ True) 27 :=
  have h := kj6 (enc := enc) (W := W) (base := base) (sp := sp) (held := held) (N := 37) Tryd.underlying27 (by kernel_rfl)
    (FldR.cons (sz := 36) rfl (by kernel_rfl) (by decide) ql9
      (FldR.cons (sz := 1) rfl (by kernel_rfl) (by decide) (qy3 Tryd.underlying9 (by kernel_rfl)) FldR.nil))
  h
theorem qj8 (hval : Value.okWide Tryd.prog W r b0 27 v) (hd : DataW.Trod enc Tryd.prog W base sp held 27 v d ps) :
    ∃ c : Ce, c.g.rt.length = 32 ∧ RVI W (fun b => b < W.heap.size) v (ceD c) := by
  obtain ⟨p, hg, hR⟩ := qh3 (t := 27) Tryd.underlying27 (fun _ => rfl) qn9 hval hd
  exact ⟨⟨grT p.1, p.2.1⟩, hg.1.2.2.2.2.1, hR⟩
theorem vf0 (hval : Value.okWide Tryd.prog W r b0 38 v) (hd : DataW.Trod enc Tryd.prog W base sp held 38 v d ps) :
    ∃ l : List Ce, (∀ x ∈ l, x.g.rt.length = 32) ∧ RVI W (fun b => b < W.heap.size) v (csD l) := by
  have hel : jq8 Tryd.prog enc W base sp held ceD (fun c : Ce => c.g.rt.length = 32) 27 := fun fuel cs y hf hl => by
    obtain ⟨p, hg, h1, h2⟩ := qn9 fuel cs y hf hl
    exact ⟨⟨grT p.1, p.2.1⟩, hg.1.2.2.2.2.1, h1, h2⟩
  obtain ⟨l, h, _, hR⟩ := kq2 cez ceD (fun c : Ce => c.g.rt.length = 32) Tryd.underlying38 (by rw [show Tryd.prog.cellsOf 27 = 37 by kernel_rfl]; decide) hel hval hd
  exact ⟨l, h, hR⟩
end
end Go.Proofs.YtcdnpmpjeeiapaaDoor
