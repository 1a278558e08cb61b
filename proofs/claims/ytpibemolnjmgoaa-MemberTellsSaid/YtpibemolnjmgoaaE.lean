/- The walk of MemberTells: it returns true, for every move and word. -/
import Derived.Test.YtpibemolnjmgoaaC
import Derived.Test.YtpibemolnjmgoaaD
import Derived.BigQuiet
namespace Go
structure Grew (B : Nat) (W : World) where
  to : World
  below : RowKit.Below B W to
instance (B : Nat) (W : World) : Nonempty (Grew B W) := ⟨⟨W, RowKit.Below.refl _ _⟩⟩
theorem wp_region_grew {P : Program} {id : Nat} {Q : Exit → Act → World → Prop} {a : Act} {l : List Oper} (W : World) (hm : P.follows .mixedOrders = true) (hB : Region.lexB .any l.toArray = true)
    (h : wpQuiet P l.toArray (fun w' => ∃ p : Grew W.heap.size W, w' = p.to) (fun a' => ∀ w', (∃ p : Grew W.heap.size W, w' = p.to) → Q .normal a' w') l a) : (Code.region id l.toArray true).wp P Q a W :=
  wp_region_quiet (C := fun w' => ∃ p : Grew W.heap.size W, w' = p.to) hm hB ⟨⟨W.drew, (RowKit.Below.refl _ _).drew⟩, rfl⟩ (by simpa using h)
theorem Calls.grew_of {P : Program} {f : FuncId} {args : Array Value} {B : Nat} {W : World} {p : Grew B W} {v : Value}
    (hB : B = W.heap.size) (h : Calls P f args p.to fun e w' => e = .returned v ∧ RowKit.Below p.to.heap.size p.to w') : Calls P f args p.to fun e w'' => e = .returned v ∧ ∃ q : Grew B W, w'' = q.to :=
  h.mono fun _ w' ⟨he, hb⟩ => ⟨he, ⟨w', p.below.trans (hb.mono (hB ▸ p.below.size))⟩, rfl⟩
theorem Grew.cell {B : Nat} {W : World} (p : Grew B W) (b o : Nat) (h : b < B) : p.to.cell? ⟨b, o, none⟩ = W.cell? ⟨b, o, none⟩ := p.below.cell (p := ⟨b, o, none⟩) h
end Go
namespace Go.Proofs.Ytpibemolnjmgoaa
open Go.RowKit
theorem isR_any' (v : ByteArray) (w : World) :
    Calls Try.prog 13 #[.string v] w fun e w' => e = .returned (.bool (isB v)) ∧ Below w.heap.size w w' :=
  (isR_any v w).mono fun _ _ ⟨h, h2⟩ => ⟨h, h2 ▸ Below.refl _ _⟩
theorem ruleR_any' (v : ByteArray) (w : World) :
    Calls Try.prog 15 #[.string v] w fun e w' => e = .returned (.bool (ruleB v)) ∧ Below w.heap.size w w' :=
  (ruleR_any v w).mono fun _ _ ⟨h, h2⟩ => ⟨h, h2 ▸ Below.refl _ _⟩

set_option maxHeartbeats 1600000 in
theorem tells_walk (r s a n v : ByteArray) (self inv kick ban above : Bool) (w : World) :
    Calls Try.prog 3 #[.agg #[.string r, .string s, .string a, .string n, .bool self, .bool inv, .bool kick, .bool ban, .bool above], .string v] w fun e w' => e = .returned (.bool true) ∧ Below w.heap.size w w' := by
  go_enter Try.func3, Try.ntmps3
  go_wp2_with fail
  have hc := fun (p : Grew (w.alloc (.cells #[.string r, .string s, .string a, .string n, .bool self, .bool inv, .bool kick, .bool ban, .bool above] 23)).heap.size (w.alloc (.cells #[.string r, .string s, .string a, .string n, .bool self, .bool inv, .bool kick, .bool ban, .bool above] 23))) b o h => Grew.cell p b o h
  refine wp_region_grew _ (by kernel_rfl) (by kernel_rfl) ?_
  repeat (first | go_big_quiet_step ((first | (go_at_call 7; exact Calls.grew_of (by simp) (lives_any _)) | (go_at_call 10; exact Calls.grew_of (by simp) (allowed_any _ _ _ _ _ _ _ _ _ _)) | (go_at_call 11; exact Calls.grew_of (by simp) (allowedR_any _ _ _ _ _ _ _ _ _ _)) | (go_at_call 8; exact Calls.grew_of (by simp) (check_any _ _ _ _ _ _ _ _ _ _)) | (go_at_call 9; exact Calls.grew_of (by simp) (checkR_any _ _ _ _ _ _ _ _ _ _)) | (go_at_call 12; exact Calls.grew_of (by simp) (is_any _ _)) | (go_at_call 13; exact Calls.grew_of (by simp) (isR_any' _ _)) | (go_at_call 14; exact Calls.grew_of (by simp) (rule_any _ _)) | (go_at_call 15; exact Calls.grew_of (by simp) (ruleR_any' _ _)))))
  refine wpQuiet_nil ?_
  rintro _ ⟨p, rfl⟩
  go_wp2
  go_ret
  exact ⟨rfl, bend p.below⟩
end Go.Proofs.Ytpibemolnjmgoaa
