/- Guarded operations; arrays of numbers, compared. It speaks of no program of ours. -/
import Derived.Test.YtpibemolnjmgoaaDoorDq
import Derived.ChangeKeysEq
namespace Go.Proofs.YtpibemolnjmgoaaDoor
set_option linter.unusedSimpArgs false
set_option linter.unusedVariables false
open Go.RowKit

def unguard (o : Oper) : Oper := { o with guard := none }
theorem DQ_unguard {C : Cx} {o : Oper} {xs : List D} {h : List (Option Bk)} {d : D} (k : DQ C (unguard o) xs h d) : DQ C o xs h d := k
theorem DO_unguard {C : Cx} {o : Oper} {st st' : St} (k : DO C (unguard o) st st') : DO C o st st' := k
theorem wantD_at {ops : Array Oper} {st : St} {o : Oper} {g u : Nat} {want b : Bool} (hg : o.guard = some (g, want)) (hu : (ops[g]?).bind (·.dst) = some u) (hs : st.s u = .v (.bool b)) : wantD ops st o = some (b == want) := by
  simp only [wantD, hg, hu, hs]
/-- an operation that is guarded, and wanted -/
theorem DR_g {C : Cx} {ops : Array Oper} {K : St → Prop} {o : Oper} {rest : List Oper} {s : Nat → D} {h : List (Option Bk)} {g u : Nat} {want : Bool} (hg : o.guard = some (g, want)) (hu : (ops[g]?).bind (·.dst) = some u) (hs : s u = .v (.bool want))
    (k : DR C ops K (unguard o :: rest) ⟨s, h⟩) : DR C ops K (o :: rest) ⟨s, h⟩ := by
  rcases k with ⟨_, st', h1, h2⟩ | ⟨h1, _⟩
  · exact .inl ⟨by rw [wantD_at hg hu (st := ⟨s, h⟩) hs]; simp, st', DO_unguard h1, h2⟩
  · cases h1
theorem DRq_g {C : Cx} {ops : Array Oper} {K : St → Prop} {o : Oper} {rest : List Oper} {s : Nat → D} {h : List (Option Bk)} {g u : Nat} {want : Bool} (hg : o.guard = some (g, want)) (hu : (ops[g]?).bind (·.dst) = some u) (hs : s u = .v (.bool want))
    (k : DRq C ops K (unguard o :: rest) ⟨s, h⟩) : DRq C ops K (o :: rest) ⟨s, h⟩ := by
  obtain ⟨d, h1, h2, h3⟩ := k
  rcases h2 with ⟨_, h2⟩ | ⟨h2, _⟩
  · exact ⟨d, h1, .inl ⟨by rw [wantD_at hg hu (st := ⟨s, h⟩) hs]; simp, DQ_unguard h2⟩, h3⟩
  · cases h2
/-- .. and not wanted -/
theorem DR_skip {C : Cx} {ops : Array Oper} {K : St → Prop} {o : Oper} {rest : List Oper} {s : Nat → D} {h : List (Option Bk)} {g u t : Nat} {want : Bool} (hg : o.guard = some (g, want)) (hu : (ops[g]?).bind (·.dst) = some u) (hd : o.dst = some t) (ht' : Nat.blt t C.n = true) (hs : s u = .v (.bool (!want)))
    (k : DR C ops K rest ⟨upd s t .dead, h⟩) : DR C ops K (o :: rest) ⟨s, h⟩ := by
  have ht : t < C.n := by simpa using ht'
  refine .inr ⟨by rw [wantD_at hg hu (st := ⟨s, h⟩) hs]; cases want <;> rfl, by simp [dstB, hd, ht], ?_⟩
  simp only [St.put, hd]
  exact k
theorem DRq_skip {C : Cx} {ops : Array Oper} {K : St → Prop} {o : Oper} {rest : List Oper} {s : Nat → D} {h : List (Option Bk)} {g u t : Nat} {want : Bool} (hg : o.guard = some (g, want)) (hu : (ops[g]?).bind (·.dst) = some u) (hd : o.dst = some t) (ht' : Nat.blt t C.n = true) (hs : s u = .v (.bool (!want)))
    (k : DRq C ops K rest ⟨upd s t .dead, h⟩) : DRq C ops K (o :: rest) ⟨s, h⟩ := by
  have ht : t < C.n := by simpa using ht'
  refine ⟨.dead, by simp [dstB, hd, ht], .inr ⟨by rw [wantD_at hg hu (st := ⟨s, h⟩) hs]; cases want <;> rfl, rfl⟩, ?_⟩
  simp only [St.put, hd]
  exact k

/-! ### arrays of numbers -/
theorem run_eqItems_int {P : Program} (w : World) (d : Nat) {e : TypeId} {k : IntKind} (he : P.underlying e = some (.int k)) (xs ys : Array Value) {k1 k2 : IntKind} (f g : Nat → Int) (hk : k1 = k2) : ∀ (is : List Nat),
    (∀ i ∈ is, xs[i]? = some (.int k1 (f i)) ∧ ys[i]? = some (.int k2 (g i))) → (Op.eqItems (d + 1) e 1 xs ys is).run P w = .ok (decide (is.map f = is.map g)) w
  | [], _ => by simp [Op.eqItems]
  | i :: is, h => by
    obtain ⟨h1, h2⟩ := h i (by simp)
    have hp : ∀ (zs : Array Value) (v : Value), zs[i]? = some v → (part e zs (i * 1)).run P w = .ok v w := fun zs v hv => by
      rw [Nat.mul_one]
      unfold part
      simp [Sem.run_bind, isAgg, run_underlying he, hv]
    have ih := run_eqItems_int w d he xs ys f g hk is fun j hj => h j (by simp [hj])
    have hq : (Op.equalIn (d + 1) e (.int k1 (f i)) (.int k2 (g i))).run P w = .ok (f i == g i) w := by
      subst hk
      exact run_equalIn_int w d e k1 k (f i) (g i) he
    simp only [Op.eqItems, Sem.run_bind, hp _ _ h1, hp _ _ h2, Result.andThen_ok, hq]
    by_cases e1 : f i = g i
    · simp [e1, ih]
    · simp [e1]
def eqaF (T : Nat → Option TE) (op : BinOp) (t : Nat) (a b : D) : Option D :=
  match T t, a, b with
  | some ⟨.array n el, _, _, _⟩, .arr k m f, .arr k' m' g =>
    match T el with
    | some ⟨.int _, 1, _, _⟩ => if k = k' ∧ m = n ∧ m' = n then (match op with
      | .eql => some (.v (.bool (decide ((List.range n).map f = (List.range n).map g))))
      | .neq => some (.v (.bool (!decide ((List.range n).map f = (List.range n).map g))))
      | _ => none) else none
    | _ => none
  | _, _, _ => none
theorem DQ_eqa {C : Cx} {o : Oper} {h : List (Option Bk)} {op : BinOp} {t u : Nat} {x y : Operand} {a b d : D} (ho : o.op = .binOp op t x y u) (hm : C.P.eqGuardType C.P.depth t = false) (hf : eqaF C.T op t a b = some d) : DQ C o [a, b] h d := DQ_val fun bs w ρ hw ha => by
  rw [ho] at ha
  obtain ⟨a', b', h1, h2, h3⟩ := All2.two (a := x) (b := y) ha
  cases h1
  unfold eqaF at hf
  split at hf
  · rename_i n el b1 b2 z1 k m f k' m' g hT
    split at hf
    · rename_i kk b3 z3 hE
      split at hf
      · rename_i hc
        obtain ⟨rfl, rfl, rfl⟩ := hc
        obtain ⟨ti, dt, _, hF, _⟩ := tok_of hw.tok hT
        obtain ⟨ti2, de, _, hF2, _⟩ := tok_of hw.tok hE
        have hd := hF.desc
        have hd2 := hF2.desc
        cases dt <;> simp only [descB] at hd <;> try cases hd
        simp only [Bool.and_eq_true, beq_iff_eq] at hd
        obtain ⟨rfl, rfl⟩ := hd
        cases de <;> simp only [descB] at hd2 <;> try cases hd2
        obtain ⟨cs, e1, e2, e3⟩ := h2
        obtain ⟨cs', f1, f2, f3⟩ := h3
        have hcell : ∀ (zs : Array Value) (φ : Nat → Int), (∀ i (hi : i < zs.size), R1 C w bs zs[i] (cell (.arr k zs.size φ) i)) → ∀ i, i < zs.size → zs[i]? = some (.int k (φ i)) := fun zs φ hz i hi => by
          have := hz i hi
          rw [Array.getElem?_eq_getElem hi]
          have h5 : RV C w bs zs[i] (.v (.int k (φ i))) := this
          rw [(RV_v h5).1]
        subst e2
        have hq : (Op.equalIn 10000 t (.agg cs) (.agg cs')).run C.P w = .ok (decide ((List.range cs.size).map f = (List.range cs.size).map g)) w := by
          have hsz : C.P.cellsOf el = 1 := by
            have := hF2.size
            have hi := hF2.info
            simp only [Program.cellsOf, hi]
            simpa using this
          rw [show (10000 : Nat) = 9999 + 1 from rfl, run_equalIn_array w 9999 cs cs' hF.und hF2.info, hsz]
          refine run_eqItems_int (k1 := k) (k2 := k) w 9998 hF2.und cs cs' f g rfl _ fun i hi => ?_
          have hi' : i < cs.size := by simpa using hi
          exact ⟨hcell cs f e3 i hi', hcell cs' g (fun i hi => f3 i hi) i (by omega)⟩
        have he := run_eqGuard_agg w op t x y cs cs' hm
        cases op <;> simp only [reduceCtorEq, Option.some.injEq] at hf
        · subst hf
          refine ⟨_, ?_, R1.im (.v rfl)⟩
          simp [execOp, ho, e1, f1, Sem.run_bind, he, run_eql_struct, hq]
        · subst hf
          refine ⟨_, ?_, R1.im (.v rfl)⟩
          simp [execOp, ho, e1, f1, Sem.run_bind, he, run_neq_struct, hq]
      · cases hf
    · cases hf
  · cases hf
end Go.Proofs.YtpibemolnjmgoaaDoor
