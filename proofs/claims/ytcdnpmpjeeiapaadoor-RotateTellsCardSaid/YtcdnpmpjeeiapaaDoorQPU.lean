/- Ways, as the document says. Sums compared; roots and paths, as the document says. Paths, as the document says. Answers that the document gives for trees. The laws of trees, walked. -/
import Derived.Test.YtcdnpmpjeeiapaaDoorQPD
import Derived.Test.YtcdnpmpjeeiapaaDoorQPT
set_option linter.unusedSimpArgs false
set_option linter.unusedVariables false
set_option maxRecDepth 10000
namespace Go.Proofs.YtcdnpmpjeeiapaaDoor
open Go.RowKit




theorem vo7 {a b : List UInt8} (ha : a.length = 32) (hb : b.length = 32) : decide ((List.range 32).map (fun i => ((a.getD i 0).toNat : Int)) = (List.range 32).map (fun i => ((b.getD i 0).toNat : Int))) = decide (a = b) := by
  refine decide_eq_decide.2 ⟨fun h => ?_, fun h => by rw [h]⟩
  apply List.ext_getElem (by omega)
  intro i h1 h2
  have := congrArg (fun l => l.getD i 0) h
  simp only [List.getD_eq_getElem?_getD, List.getElem?_map, List.getElem?_range (show i < 32 by omega), Option.map_some, Option.getD_some, List.getElem?_eq_getElem h1, List.getElem?_eq_getElem h2] at this
  exact UInt8.toNat_inj.1 (by omega)






theorem PC.args {E : Env} {f : FuncId} {xs ys : List D} {d : D} (h : PC E f ys d) (hx : All2 (fun a b => ∀ (w : World) (S : Nat → Prop) (v : Value), RVI w S v a → RVI w S v b) xs ys) : PC E f xs d := by
  intro w S vs hG hS hg hv
  exact h w S vs hG hS hg (All2.imp (K := fun a b => ∀ (w : World) (S : Nat → Prop) (v : Value), RVI w S v a → RVI w S v b) (fun a b c h1 h2 => h2 w S a h1) hv hx)

theorem kg4 : ∀ (k : Nat) (l : List (List UInt8)) (i : Nat), l.length = 2 ^ k → i < 2 ^ k → (∀ x ∈ l, x.length = 32) → ∀ x ∈ jn3 k l i, x.length = 32
  | 0, _, _, _, _, _, x, hx => by cases hx
  | k + 1, l, i, hl, hi, h32, x, hx => by
    have e2 : 2 ^ (k + 1) = 2 * 2 ^ k := by rw [Nat.pow_succ]; omega
    simp only [jn3, List.mem_cons] at hx
    rcases hx with rfl | hx
    · exact jx2 h32 (by unfold jv3; split <;> omega)
    · exact kg4 k (upS l) (i / 2) (by rw [js5]; omega) (by omega) (kq7 l) x hx






end Go.Proofs.YtcdnpmpjeeiapaaDoor
