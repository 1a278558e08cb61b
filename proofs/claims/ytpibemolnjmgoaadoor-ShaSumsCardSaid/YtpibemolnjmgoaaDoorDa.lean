/- Data in the place of memory: what a value of a run stands for, and what stays so when memory grows. It speaks of no program of ours. -/
import Derived.Test.YtpibemolnjmgoaaDoorOwn
namespace Go.Proofs.YtpibemolnjmgoaaDoor
set_option linter.unusedSimpArgs false
set_option linter.unusedVariables false
open Go.RowKit

/-- what a value stands for -/
inductive D : Type 1 where
  | v (x : Value)
  | arr (k : IntKind) (n : Nat) (f : Nat → Int)
  | nil
  | cons (h t : D)
  | tup (ps : D)
  | sl {α : Type} (l : List α) (z : α) (e : α → D)
  | ip (d : D)
  | ptr (l o : Nat)
  | own (l n T sz : Nat)
  | osl (l o n : Nat)
  | fn (f : FuncId) (caps : D)
  | dead

def isC : Value → Bool
  | .agg _ | .tuple _ => false
  | _ => true
theorem isC_cells {x : Value} (h : isC x = true) : x.cells = #[x] := by cases x <;> simp_all [isC, Value.cells]
theorem isC_one {x : Value} (h : isC x = true) : x.oneCell' = true := by cases x <;> simp_all [isC, Value.oneCell']

/-- how many cells -/
def nc : D → Nat
  | .arr _ n _ => n
  | .nil => 0
  | .cons h t => nc h + nc t
  | _ => 1
def cell : D → Nat → D
  | .arr k _ f, i => .v (.int k (f i))
  | .nil, _ => .dead
  | .cons h t, i => if i < nc h then cell h i else cell t (i - nc h)
  | d, _ => d

/-- immutable: leads, in w, to nothing but blocks of S -/
inductive RI (w : World) (S : Nat → Prop) : Value → D → Prop where
  | v {x} (h : isC x = true) : RI w S x (.v x)
  | sl0 {α : Type} {z : α} {e : α → D} {a cap} : RI w S (.slice a 0 cap) (.sl [] z e)
  | sl {α : Type} {l : List α} {z : α} {e : α → D} {b off cap : Nat} (sz : Nat) (xs : Nat → Nat → Value) (hb : S b) (hcap : l.length ≤ cap) (hs : ∀ i, i < l.length → nc (e (l.getD i z)) = sz)
      (hx : ∀ i j, i < l.length → j < sz → w.cell? ⟨b, off + (i * sz + j), none⟩ = some (xs i j))
      (hc : ∀ i j, i < l.length → j < sz → RI w S (xs i j) (cell (e (l.getD i z)) j)) : RI w S (.slice (some ⟨b, off, none⟩) l.length cap) (.sl l z e)
  | ip {d b off} (xs : Nat → Value) (hb : S b) (hx : ∀ j, j < nc d → w.cell? ⟨b, off + j, none⟩ = some (xs j)) (hc : ∀ j, j < nc d → RI w S (xs j) (cell d j)) : RI w S (.pointer (some ⟨b, off, none⟩)) (.ip d)
  | fn {f : FuncId} {cs : Array Value} {caps : D} (hn : cs.size = nc caps) (h : ∀ i (hi : i < cs.size), RI w S cs[i] (cell caps i)) : RI w S (.func (.func f) #[] cs) (.fn f caps)
  | dead {x} (h : isC x = true) : RI w S x .dead

theorem cell_of_heap {w w' : World} {b o : Nat} {x : Value} (h : w.cell? ⟨b, o, none⟩ = some x) (he : w'.heap[b]? = w.heap[b]?) : w'.cell? ⟨b, o, none⟩ = some x := by
  unfold World.cell? at *
  rw [he]
  exact h

theorem RI.mono {w w' : World} {S S' : Nat → Prop} (hS : ∀ b, S b → S' b ∧ w'.heap[b]? = w.heap[b]?) {x : Value} {d : D} (h : RI w S x d) : RI w' S' x d := by
  induction h with
  | v h => exact .v h
  | sl0 => exact .sl0
  | sl sz xs hb hcap hs hx _ ih => exact .sl sz xs (hS _ hb).1 hcap hs (fun i j hi hj => cell_of_heap (hx i j hi hj) (hS _ hb).2) ih
  | ip xs hb hx _ ih => exact .ip xs (hS _ hb).1 (fun j hj => cell_of_heap (hx j hj) (hS _ hb).2) ih
  | fn hn _ ih => exact .fn hn ih
  | dead h => exact .dead h

theorem RI.isC {w : World} {S : Nat → Prop} {x : Value} {d : D} (h : RI w S x d) : isC x = true := by
  cases h <;> first | assumption | rfl

/-! ### types -/
inductive TI : Type where
  | int (k : IntKind)
  | bool
  | str
  | slice (e : Nat)
  | array (n e : Nat)
  | struct (fs : List (Nat × Nat))
  | ptr (e : Nat)
  | other
structure TE : Type 1 where
  d : TI
  sz : Nat
  bytes : Nat
  z : D

def vEq : Value → Value → Bool
  | .bool a, .bool b => a == b
  | .int k a, .int k' b => decide (k = k') && decide (a = b)
  | .string a, .string b => decide (a.data.toList = b.data.toList)
  | .pointer none, .pointer none => true
  | .slice none 0 0, .slice none 0 0 => true
  | .map none, .map none => true
  | .nilFunc, .nilFunc => true
  | .nilIface, .nilIface => true
  | _, _ => false
theorem vEq_spec {x y : Value} (h : vEq x y = true) : x = y ∧ isC x = true := by
  unfold vEq at h
  split at h
  · simp at h; subst h; exact ⟨rfl, rfl⟩
  · simp at h; obtain ⟨rfl, rfl⟩ := h; exact ⟨rfl, rfl⟩
  · rename_i a b
    simp at h
    obtain ⟨⟨a⟩⟩ := a
    obtain ⟨⟨b⟩⟩ := b
    simp at h
    subst h
    exact ⟨rfl, rfl⟩
  all_goals first | exact ⟨rfl, rfl⟩ | cases h
def aggB : D → Bool
  | .arr .. | .nil | .cons .. => true
  | _ => false
def zB (zv : Value) (d : D) : Bool :=
  match zv with
  | .agg cs => aggB d && cs.size == nc d && (List.range cs.size).all fun i => match cs[i]?, cell d i with | some x, .v y => vEq x y | _, _ => false
  | x => match d with | .v y => vEq x y | _ => false
def descB (d : TypeDesc) : TI → Bool
  | .int k => match d with | .int k' => decide (k = k') | _ => false
  | .bool => match d with | .bool => true | _ => false
  | .str => match d with | .string => true | _ => false
  | .slice e => match d with | .slice e' => e == e' | _ => false
  | .array n e => match d with | .array n' e' => n == n' && e == e' | _ => false
  | .struct fs => match d with | .struct gs => gs.toList.map (fun f => (f.type, f.offset)) == fs | _ => false
  | .ptr e => match d with | .pointer e' => e == e' | _ => false
  | .other => match d with | .struct _ => false | .array _ _ => false | _ => true
def tokB1 (P : Program) (t : Nat) (e : TE) : Bool :=
  match P.info? t, P.underlying t with
  | some i, some d => i.size == e.sz && i.bytes == e.bytes && descB d e.d && (match i.zero with | some zv => zB zv e.z && nc e.z == e.sz | none => false)
  | _, _ => false
def TOK (P : Program) (T : Nat → Option TE) : Prop := ∀ t e, T t = some e → tokB1 P t e = true
end Go.Proofs.YtpibemolnjmgoaaDoor
