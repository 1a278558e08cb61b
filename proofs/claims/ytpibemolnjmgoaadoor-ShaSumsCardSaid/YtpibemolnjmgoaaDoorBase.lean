/- Small laws on worlds and on regions that draw their order, for the walks; they speak of no program of ours. -/
import Derived.WalkKit
import Derived.Lib.Hide
import Derived.BigQuiet
import Derived.Deep.DeepCutAuto
namespace Go.Proofs.YtpibemolnjmgoaaDoor
set_option linter.unusedSimpArgs false
set_option linter.unusedVariables false
open Go.RowKit

theorem ret_bool {a b : Bool} (h : a = b) : Ending.returned (.bool a) = .returned (.bool b) := by rw [h]
theorem ret_int {k : IntKind} {a b : Int} (h : a = b) : Ending.returned (.int k a) = .returned (.int k b) := by rw [h]
theorem ret_val {a b : Value} (h : a = b) : Ending.returned a = .returned b := by rw [h]

theorem bcell {B : Nat} {W w1 : World} (hb : Below B W w1) : (∀ b o, b < B → w1.cell? ⟨b, o, none⟩ = W.cell? ⟨b, o, none⟩) ∧ (∀ b o, b < B → w1.frozen? ⟨b, o, none⟩ = W.frozen? ⟨b, o, none⟩) :=
  ⟨fun b o h => hb.cell (p := ⟨b, o, none⟩) h, fun b o h => hb.frozen (p := ⟨b, o, none⟩) h⟩
theorem bnext {W w1 w2 : World} (hb : Below W.heap.size W w1) (h : Below w1.heap.size w1 w2) : Below W.heap.size W w2 := hb.trans (h.mono hb.size)
theorem bend {w w1 : World} {o : Obj} (hb : Below (w.alloc o).heap.size (w.alloc o) w1) : Below w.heap.size w w1 :=
  ((Below.refl _ _).alloc (Nat.le_refl _) _).trans (hb.mono (by simp))

/-! ### a region that draws its order, whose callees may lay blocks of their own -/
structure Grew (B : Nat) (W : World) where
  wo : World
  below : Below B W wo
instance (B : Nat) (W : World) : Nonempty (Grew B W) := ⟨⟨W, Below.refl _ _⟩⟩
theorem wp_region_grew {P : Program} {id : Nat} {Q : Exit → Act → World → Prop} {a : Act} {l : List Oper} (W : World) (hm : P.follows .mixedOrders = true) (hB : Region.lexB .any l.toArray = true)
    (h : wpQuiet P l.toArray (fun w' => ∃ p : Grew W.heap.size W, w' = p.wo) (fun a' => ∀ w', (∃ p : Grew W.heap.size W, w' = p.wo) → Q .normal a' w') l a) : (Code.region id l.toArray true).wp P Q a W :=
  wp_region_quiet (C := fun w' => ∃ p : Grew W.heap.size W, w' = p.wo) hm hB ⟨⟨W.drew, (Below.refl _ _).drew⟩, rfl⟩ (by simpa using h)
theorem Calls.grew_of {P : Program} {f : FuncId} {args : Array Value} {B : Nat} {W : World} {p : Grew B W} {v : Value}
    (hB : B = W.heap.size) (h : Calls P f args p.wo fun e w' => e = .returned v ∧ Below p.wo.heap.size p.wo w') : Calls P f args p.wo fun e w'' => e = .returned v ∧ ∃ q : Grew B W, w'' = q.wo :=
  h.mono fun _ w' ⟨he, hb⟩ => ⟨he, ⟨w', p.below.trans (hb.mono (hB ▸ p.below.size))⟩, rfl⟩
theorem Calls.grew_same {P : Program} {f : FuncId} {args : Array Value} {B : Nat} {W : World} {p : Grew B W} {v : Value}
    (h : Calls P f args p.wo fun e w' => e = .returned v ∧ p.wo = w') : Calls P f args p.wo fun e w'' => e = .returned v ∧ ∃ q : Grew B W, w'' = q.wo :=
  h.mono fun _ _ ⟨he, hb⟩ => ⟨he, p, hb.symm⟩
theorem Grew.cell {B : Nat} {W : World} (p : Grew B W) (b o : Nat) (h : b < B) : p.wo.cell? ⟨b, o, none⟩ = W.cell? ⟨b, o, none⟩ := p.below.cell (p := ⟨b, o, none⟩) h
theorem Calls.qsame {P : Program} {f : FuncId} {args : Array Value} {w : World} {n : Nat} {v : Value}
    (h : Calls P f args (w.drewN n) fun e w' => e = .returned v ∧ w.drewN n = w') : Calls P f args (w.drewN n) fun e w'' => e = .returned v ∧ ∃ m, w'' = w.drewN m :=
  h.mono fun _ _ ⟨he, hm⟩ => ⟨he, n, hm.symm⟩

theorem _root_.Go.RowKit.Below.drewN {B : Nat} {a w : World} (h : Below B a w) (n : Nat) : Below B a (w.drewN n) := ⟨h.os, h.tape, h.output, h.size, h.block⟩

/-! ### a block whose cells are known whole -/
def Blk (w : World) (g : Nat) (T : TypeId) (vs : List Value) : Prop := w.heap[g]? = some (.cells vs.toArray T (0, 0))
theorem Blk.cell {w : World} {g : Nat} {T : TypeId} {vs : List Value} (h : Blk w g T vs) (i : Nat) (hi : i < vs.length) : w.cell? ⟨g, i, none⟩ = some vs[i] := by
  unfold Blk at h
  simp [World.cell?, h, hi]
theorem Blk.frozen {w : World} {g : Nat} {T : TypeId} {vs : List Value} (h : Blk w g T vs) (i : Nat) : w.frozen? ⟨g, i, none⟩ = false := by
  unfold Blk at h
  simp [World.frozen?, h]
theorem Blk.lt {w : World} {g : Nat} {T : TypeId} {vs : List Value} (h : Blk w g T vs) : g < w.heap.size := (Array.getElem?_eq_some_iff.1 h).1
theorem Blk.set {w : World} {g : Nat} {T : TypeId} {vs : List Value} (h : Blk w g T vs) (i : Nat) (v : Value) : Blk (w.setCell ⟨g, i, none⟩ v) g T (vs.set i v) := by
  unfold Blk at *
  simp [World.setCell, Array.getElem?_modify, h]
theorem Blk.other {w : World} {g : Nat} {T : TypeId} {vs : List Value} (h : Blk w g T vs) (a : Addr) (v : Value) (hne : a.block ≠ g) : Blk (w.setCell a v) g T vs := by
  unfold Blk at *
  simp [World.setCell, Array.getElem?_modify, h, hne]
theorem Blk.alloc {w : World} {g : Nat} {T : TypeId} {vs : List Value} (h : Blk w g T vs) (o : Obj) : Blk (w.alloc o) g T vs := by
  have := h.lt
  unfold Blk at *
  rw [Below.heap_alloc _ _ _ this, h]
theorem Blk.drew {w : World} {g : Nat} {T : TypeId} {vs : List Value} (h : Blk w g T vs) : Blk w.drew g T vs := h
theorem Blk.below {w w' : World} {B g : Nat} {T : TypeId} {vs : List Value} (h : Blk w g T vs) (hb : Below B w w') (hg : g < B) : Blk w' g T vs := by
  unfold Blk at *
  rw [hb.block g hg, h]
theorem Blk.new (w : World) (T : TypeId) (vs : List Value) : Blk (w.alloc (.cells vs.toArray T)) w.heap.size T vs := by
  show (w.heap.push _)[w.heap.size]? = _
  simp
theorem Blk.new' {w : World} {T : TypeId} {vs : List Value} {g : Nat} {xs : Array Value} (hg : g = w.heap.size) (hx : xs = vs.toArray) : Blk (w.alloc (.cells xs T)) g T vs := by
  subst hg; subst hx; exact Blk.new w T vs

theorem wp_store_row {P : Program} {o : Oper} {a : Act} {w : World} {K : Act → World → Prop} {Q : Exit → Act → World → Prop} (ty : TypeId) (x y : Operand) (ho : o.op = .store ty x y)
    (g : Nat) (hx : a.eval x = .pointer (some ⟨g, 0, none⟩)) (cs : Array Value) (hy : a.eval y = .agg cs) (t : TypeId) (old : Array Value) (hg : w.heap[g]? = some (.cells old t (0, 0)))
    (hi : (P.info? ty).map (·.size) = some cs.size) (hs : old.size = cs.size) (h1 : ∀ v ∈ cs.toList, v.oneCell' = true) (h : K (a.put o.dst undef) (w.setRow g cs)) : o.wp P a w K Q := by
  have hst := run_storeCells_at P g 0 t cs.toList 0 old w hg (by simp [hs]) h1
  simp only [Nat.add_zero, List.take_zero, List.nil_append, Nat.zero_add] at hst
  rw [List.drop_of_length_le (by simp [hs]), List.append_nil] at hst
  cases hq : P.info? ty with
  | none => simp [hq] at hi
  | some i =>
    have hsz : i.size = cs.size := by simpa [hq] using hi
    unfold Oper.wp execOp
    simp [ho, hx, hy, Instr.storeAt, Instr.sureAddr, storeVar, Sem.run_bind, sizeOf, typeInfo, hq, hsz, Value.cells, hst]
    exact h
theorem wpList_store_row {P : Program} {ops : Array Oper} {rest : List Oper} {o : Oper} {a : Act} {w : World} {Q : Exit → Act → World → Prop} (hgd : o.guard = none) (ty : TypeId) (x y : Operand) (ho : o.op = .store ty x y)
    (g : Nat) (hx : a.eval x = .pointer (some ⟨g, 0, none⟩)) (cs : Array Value) (hy : a.eval y = .agg cs) (t : TypeId) (old : Array Value) (hg : w.heap[g]? = some (.cells old t (0, 0)))
    (hi : (P.info? ty).map (·.size) = some cs.size) (hs : old.size = cs.size) (h1 : ∀ v ∈ cs.toList, v.oneCell' = true) (h : wpList P ops Q rest (a.put o.dst undef) (w.setRow g cs)) : wpList P ops Q (o :: rest) a w :=
  wpList_plain hgd fun _ hK => wp_store_row ty x y ho g hx cs hy t old hg hi hs h1 (hK _ _ h)
theorem Blk.setRow {w : World} {g : Nat} {T : TypeId} {vs : List Value} (h : Blk w g T vs) (cs : List Value) : Blk (w.setRow g cs.toArray) g T cs := setRow_heap w g _ _ T _ h
theorem Blk.setRow_other {w : World} {g g' : Nat} {T : TypeId} {vs : List Value} (h : Blk w g T vs) (cs : Array Value) (hne : g' ≠ g) : Blk (w.setRow g' cs) g T vs := by
  unfold Blk at *
  simp [World.setRow, Array.getElem?_modify, h, hne]
theorem below_setRow {B : Nat} {a w : World} (h : Below B a w) (g : Nat) (cs : Array Value) (hg : B ≤ g) : Below B a (w.setRow g cs) :=
  h.trans ⟨rfl, rfl, rfl, by simp [World.setRow], fun k hk => by simp [World.setRow, Array.getElem?_modify]; omega⟩

def vU32 (n : Nat) : Value := .int .u32 (n : Int)
def vU8 (n : Nat) : Value := .int .u8 (n : Int)
theorem map_set {f : Nat → Value} (l : List Nat) (i n : Nat) : (l.map f).set i (f n) = (l.set i n).map f := by simp [List.map_set]
theorem Blk.nat {w : World} {g : Nat} {T : TypeId} {f : Nat → Value} {l : List Nat} (h : Blk w g T (l.map f)) (i : Nat) (hi : i < l.length) : w.cell? ⟨g, i, none⟩ = some (f (l.getD i 0)) := by
  rw [h.cell i (by simpa using hi)]; simp [hi]
end Go.Proofs.YtpibemolnjmgoaaDoor
