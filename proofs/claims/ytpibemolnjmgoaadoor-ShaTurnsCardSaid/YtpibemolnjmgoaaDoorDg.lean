/- The quiet operations, each by its run: part 4: lengths, slices, conversions, tuples. It speaks of no program of ours. -/
import Derived.Test.YtpibemolnjmgoaaDoorDf
import Derived.Laws.BytesString
namespace Go.Proofs.YtpibemolnjmgoaaDoor
set_option linter.unusedSimpArgs false
set_option linter.unusedVariables false
open Go.RowKit

/-! ### lengths -/
def lenD : D → Option Nat
  | .v (.string s) => some (L s).length
  | .v (.slice none 0 0) => some 0
  | .sl l _ _ => some l.length
  | .own _ n _ _ => some n
  | .osl _ _ n => some n
  | _ => none
theorem lenD_spec {C : Cx} {w : World} {bs : List (Option Nat)} {x : Value} {d : D} {n : Nat} (h : RV C w bs x d) (hd : lenD d = some n) : (∃ s, x = .string s ∧ d = .v (.string s) ∧ (L s).length = n) ∨ ∃ a cap, x = .slice a n cap ∧ n ≤ cap := by
  unfold lenD at hd
  split at hd
  · rename_i s
    simp only [Option.some.injEq] at hd
    exact .inl ⟨s, (RV_v h).1, rfl, hd⟩
  · simp only [Option.some.injEq] at hd; subst hd
    exact .inr ⟨none, 0, (RV_v h).1, Nat.le_refl _⟩
  · simp only [Option.some.injEq] at hd; subst hd
    obtain ⟨a, cap, hx, hc, _⟩ := RV_sl h
    exact .inr ⟨a, cap, hx, hc⟩
  · simp only [Option.some.injEq] at hd; subst hd
    rcases RV_own h with ⟨hx, rfl⟩ | ⟨b, cap, hx, _, _, hc, _⟩
    · exact .inr ⟨_, 0, hx, Nat.le_refl _⟩
    · exact .inr ⟨_, cap, hx, hc⟩
  · simp only [Option.some.injEq] at hd; subst hd
    obtain ⟨a, cap, hx, hc, _⟩ := RV_osl h
    exact .inr ⟨a, cap, hx, hc⟩
  · cases hd
def lenF (T : Nat → Option TE) (t : Nat) (d : D) : Option (Prop × D) :=
  match T t with
  | some ⟨.str, _, _, _⟩ => match d with | .v (.string s) => some (True, .v (.int .i64 ((L s).length : Int))) | _ => none
  | some ⟨.slice _, _, _, _⟩ => match d with
    | .v (.string _) => none
    | d => match lenD d with | some n => some (True, .v (.int .i64 (n : Int))) | none => none
  | some ⟨.array n _, _, _, _⟩ => some (True, .v (.int .i64 (n : Int)))
  | _ => none
theorem DQ_len {C : Cx} {o : Oper} {h : List (Option Bk)} {t : Nat} {x : Operand} {a d : D} {p : Prop} (ho : o.op = .call { callee := .builtin .len, args := #[x], argTypes := #[t] }) (hf : lenF C.T t a = some (p, d)) : DQ C o [a] h d := DQ_val fun bs w ρ hw ha => by
  rw [ho] at ha
  obtain ⟨a', h1, h2⟩ := All2.one (a := x) ha
  cases h1
  unfold lenF at hf
  split at hf
  · rename_i hT
    obtain ⟨ti, de, zv, hF, _⟩ := tok_of hw.tok hT
    have hd := hF.desc
    cases de <;> simp only [descB] at hd <;> try cases hd
    split at hf
    · rename_i s
      simp only [Option.some.injEq, Prod.mk.injEq] at hf
      obtain ⟨rfl, rfl⟩ := hf
      refine ⟨.int .i64 ((L s).length : Int), ?_, R1.im (.v rfl)⟩
      simp [execOp, ho, resolve, invoke, builtin, Builtin.len_, Sem.run_bind, hF.underlying w, (RV_v h2).1, goInt, size_L]
    · cases hf
  · rename_i hT
    obtain ⟨ti, de, zv, hF, _⟩ := tok_of hw.tok hT
    have hd := hF.desc
    cases de <;> simp only [descB] at hd <;> try cases hd
    split at hf
    · cases hf
    · rename_i hns
      split at hf
      · rename_i n hn
        simp only [Option.some.injEq, Prod.mk.injEq] at hf
        obtain ⟨rfl, rfl⟩ := hf
        rcases lenD_spec h2 hn with ⟨s, _, e, _⟩ | ⟨aa, cap, hx, _⟩
        · exact absurd e (hns s)
        · refine ⟨.int .i64 (n : Int), ?_, R1.im (.v rfl)⟩
          simp [execOp, ho, resolve, invoke, builtin, Builtin.len_, Sem.run_bind, hF.underlying w, hx, goInt]
      · cases hf
  · rename_i n _ _ _ _ hT
    obtain ⟨ti, de, zv, hF, _⟩ := tok_of hw.tok hT
    have hd := hF.desc
    cases de <;> simp only [descB] at hd <;> try cases hd
    simp only [Bool.and_eq_true, beq_iff_eq] at hd
    obtain ⟨rfl, rfl⟩ := hd
    simp only [Option.some.injEq, Prod.mk.injEq] at hf
    obtain ⟨rfl, rfl⟩ := hf
    refine ⟨.int .i64 (n : Int), ?_, R1.im (.v rfl)⟩
    simp [execOp, ho, resolve, invoke, builtin, Builtin.len_, Sem.run_bind, hF.underlying w, goInt]
  · cases hf

/-! ### slices -/
/-- the bounds: what is left out is 0, or the length -/
def bndF (n : Nat) (lo hi : Option Int) : Prop := 0 ≤ lo.getD 0 ∧ lo.getD 0 ≤ hi.getD n ∧ hi.getD n ≤ n
theorem run_bounds {P : Program} {w : World} {isS : Bool} {n cap : Nat} {lo hi : Option Int} {k k' : IntKind} (hb : bndF n lo hi) (hn : n ≤ cap) :
    (Instr.sliceBounds isS n cap (lo.map (.int k)) (hi.map (.int k')) none).run P w = .ok ((lo.getD 0).toNat, (hi.getD n).toNat, cap) w := by
  obtain ⟨h0, h1, h2⟩ := hb
  cases lo with
  | none =>
    cases hi with
    | none => simp [Instr.sliceBounds]
    | some b =>
      simp only [Option.getD_none, Option.getD_some] at *
      simp [Instr.sliceBounds, Sem.run_bind, run_sliceBound w k' b cap _ h1 (by omega)]
  | some a =>
    simp only [Option.getD_some] at h0 h1
    cases hi with
    | none =>
      simp only [Option.getD_none] at *
      simp [Instr.sliceBounds, Sem.run_bind, run_sliceBound w k a n _ h0 h1]
    | some b =>
      simp only [Option.getD_some] at *
      have e : (b.toNat : Int) = b := Int.toNat_of_nonneg (by omega)
      simp [Instr.sliceBounds, Sem.run_bind, run_sliceBound w k' b cap _ (by omega) (by omega), run_sliceBound w k a b.toNat _ h0 (by omega)]
def cutL {α : Type} (l : List α) (lo hi : Option Int) : List α :=
  match lo, hi with
  | none, none => l
  | none, some b => l.take b.toNat
  | some a, none => l.drop a.toNat
  | some a, some b => (l.take b.toNat).drop a.toNat
theorem cutL_eq {α : Type} {l : List α} {lo hi : Option Int} (h : bndF l.length lo hi) : cutL l lo hi = (l.take (hi.getD l.length).toNat).drop (lo.getD 0).toNat ∧ (cutL l lo hi).length = (hi.getD l.length).toNat - (lo.getD 0).toNat := by
  obtain ⟨h0, h1, h2⟩ := h
  cases lo <;> cases hi <;> simp [cutL] at * <;> omega
def sliceD (T : Nat → Option TE) (t : Nat) (a : D) (lo hi : Option Int) : Option (Prop × D) :=
  match T t with
  | some ⟨.str, _, _, _⟩ => match a with | .v (.string s) => some (bndF (L s).length lo hi, .v (.string (B (cutL (L s) lo hi)))) | _ => none
  | some ⟨.slice el, _, _, _⟩ => match T el with
    | some e => match a with
      | .sl l z f => some (bndF l.length lo hi ∧ (∀ i, i < l.length → nc (f (l.getD i z)) = e.sz), .sl (cutL l lo hi) z f)
      | .own l n _ _ => some (bndF n lo hi, .osl l ((lo.getD 0).toNat * e.sz) ((hi.getD n).toNat - (lo.getD 0).toNat))
      | .osl l o n => some (bndF n lo hi, .osl l (o + (lo.getD 0).toNat * e.sz) ((hi.getD n).toNat - (lo.getD 0).toNat))
      | _ => none
    | none => none
  | some ⟨.array n el, _, _, _⟩ => match T el with
    | some e => match a with
      | .ptr l o => some (bndF n lo hi, .osl l (o + (lo.getD 0).toNat * e.sz) ((hi.getD n).toNat - (lo.getD 0).toNat))
      | _ => none
    | none => none
  | _ => none
theorem run_sliceD {C : Cx} {h : List (Option Bk)} {bs : List (Option Nat)} {w : World} (hw : WR C h bs w) {t : Nat} {a d : D} {lo hi : Option Int} {k k' : IntKind} {p : Prop} {x : Value} (hx : RV C w bs x a)
    (hf : sliceD C.T t a lo hi = some (p, d)) (hp : p) : ∃ y, (Instr.sliceAt t x (lo.map (.int k)) (hi.map (.int k')) none).run C.P w = .ok y w ∧ RV C w bs y d := by
  unfold sliceD at hf
  split at hf
  · rename_i hT
    obtain ⟨ti, de, zv, hF, _⟩ := tok_of hw.tok hT
    have hd := hF.desc
    cases de <;> simp only [descB] at hd <;> try cases hd
    split at hf
    · rename_i s
      simp only [Option.some.injEq, Prod.mk.injEq] at hf
      obtain ⟨rfl, rfl⟩ := hf
      have hb := run_bounds (P := C.P) (w := w) (isS := false) (n := s.size) (cap := s.size) (lo := lo) (hi := hi) (k := k) (k' := k') (by rw [size_L]; exact hp) (Nat.le_refl _)
      refine ⟨.string (s.extract (lo.getD 0).toNat (hi.getD s.size).toNat), ?_, ?_⟩
      · simp [Instr.sliceAt, Instr.slice, Sem.run_bind, hF.underlying w, (RV_v hx).1, hb]
      · rw [size_L, (cutL_eq hp).1]
        have : s.extract (lo.getD 0).toNat (hi.getD ((L s).length : Int)).toNat = B (((L s).take (hi.getD ((L s).length : Int)).toNat).drop (lo.getD 0).toNat) := by
          apply ByteArray.ext
          apply Array.ext'
          simp [B, L, ByteArray.data_extract, List.extract, List.drop_take]
        rw [this]
        exact R1.im (.v rfl)
    · cases hf
  · rename_i el _ _ _ hT
    split at hf
    · rename_i e hE
      obtain ⟨ti, de, zv, hF, _⟩ := tok_of hw.tok hT
      obtain ⟨ti2, de2, zv2, hF2, _⟩ := tok_of hw.tok hE
      have hd := hF.desc
      cases de <;> simp only [descB] at hd <;> try cases hd
      simp only [beq_iff_eq] at hd
      subst hd
      have hsz := hF2.sizeOf w
      split at hf
      · rename_i α l z f
        simp only [Option.some.injEq, Prod.mk.injEq] at hf
        obtain ⟨rfl, rfl⟩ := hf
        obtain ⟨hp1, hp2⟩ := hp
        obtain ⟨aa, cap, rfl, hcap, hor⟩ := RV_sl hx
        have hb := run_bounds (P := C.P) (w := w) (isS := true) (n := l.length) (cap := cap) (lo := lo) (hi := hi) (k := k) (k' := k') hp1 hcap
        obtain ⟨c1, c2⟩ := cutL_eq hp1
        obtain ⟨q0, q1, q2⟩ := hp1
        refine ⟨.slice (if cap = (lo.getD 0).toNat then aa else aa.map (·.add ((lo.getD 0).toNat * e.sz))) ((hi.getD l.length).toNat - (lo.getD 0).toNat) (cap - (lo.getD 0).toNat), ?_, ?_⟩
        · simp [Instr.sliceAt, Instr.slice, Sem.run_bind, hF.underlying w, hb, hsz]
        · rw [← c2]
          by_cases hz : cutL l lo hi = []
          · rw [hz]; exact R1.im .sl0
          · have hpos : 0 < (cutL l lo hi).length := List.length_pos_iff.2 hz
            rcases hor with rfl | ⟨bb, off, sz, xs, rfl, hbb, hs, hx2, hc2⟩
            · exact absurd (by cases lo <;> cases hi <;> simp [cutL]) hz
            · rw [if_neg (by omega)]
              simp only [Option.map_some, addr_add]
              have hse : sz = e.sz := by rw [← hs 0 (by omega)]; exact hp2 0 (by omega)
              subst hse
              have hcut : ∀ i, i < (cutL l lo hi).length → (cutL l lo hi).getD i z = l.getD ((lo.getD 0).toNat + i) z := fun i hi' => by
                rw [c1]
                simp only [List.getD_eq_getElem?_getD, List.getElem?_drop, List.getElem?_take]
                rw [if_pos (by omega)]
              refine R1.im (.sl e.sz (fun i j => xs ((lo.getD 0).toNat + i) j) hbb (by omega) (fun i hi' => ?_) (fun i j hi' hj => ?_) (fun i j hi' hj => ?_))
              · rw [hcut i hi']; exact hs _ (by omega)
              · rw [← hx2 ((lo.getD 0).toNat + i) j (by omega) hj]
                congr 2
                rw [Nat.add_mul]; omega
              · have := hc2 ((lo.getD 0).toNat + i) j (by omega) hj
                rw [hcut i hi']
                exact this
      · rename_i l n T sz
        simp only [Option.some.injEq, Prod.mk.injEq] at hf
        obtain ⟨rfl, rfl⟩ := hf
        have hxx : ∃ aa cap, x = .slice aa n cap ∧ n ≤ cap ∧ (n = 0 ∨ ∃ bb, aa = some ⟨bb, 0, none⟩ ∧ bs[l]? = some (some bb)) := by
          rcases RV_own hx with ⟨rfl, rfl⟩ | ⟨bb, cap, rfl, hbb, _, hn, _⟩
          · exact ⟨_, _, rfl, Nat.le_refl _, .inl rfl⟩
          · exact ⟨_, _, rfl, hn, .inr ⟨bb, rfl, hbb⟩⟩
        obtain ⟨aa, cap, rfl, hn, hor⟩ := hxx
        have hb := run_bounds (P := C.P) (w := w) (isS := true) (n := n) (cap := cap) (lo := lo) (hi := hi) (k := k) (k' := k') hp hn
        obtain ⟨q0, q1, q2⟩ := hp
        refine ⟨.slice (if cap = (lo.getD 0).toNat then aa else aa.map (·.add ((lo.getD 0).toNat * e.sz))) ((hi.getD n).toNat - (lo.getD 0).toNat) (cap - (lo.getD 0).toNat), ?_, ?_⟩
        · simp [Instr.sliceAt, Instr.slice, Sem.run_bind, hF.underlying w, hb, hsz]
        · by_cases hz : (hi.getD n).toNat - (lo.getD 0).toNat = 0
          · rw [hz]; exact R1.osl0
          · rcases hor with rfl | ⟨bb, rfl, hbb⟩
            · omega
            · rw [if_neg (by omega)]
              simp only [Option.map_some, addr_add, Nat.zero_add]
              exact R1.osl hbb (by omega)
      · rename_i l o n
        simp only [Option.some.injEq, Prod.mk.injEq] at hf
        obtain ⟨rfl, rfl⟩ := hf
        obtain ⟨aa, cap, rfl, hn, hor⟩ := RV_osl hx
        have hb := run_bounds (P := C.P) (w := w) (isS := true) (n := n) (cap := cap) (lo := lo) (hi := hi) (k := k) (k' := k') hp hn
        obtain ⟨q0, q1, q2⟩ := hp
        refine ⟨.slice (if cap = (lo.getD 0).toNat then aa else aa.map (·.add ((lo.getD 0).toNat * e.sz))) ((hi.getD n).toNat - (lo.getD 0).toNat) (cap - (lo.getD 0).toNat), ?_, ?_⟩
        · simp [Instr.sliceAt, Instr.slice, Sem.run_bind, hF.underlying w, hb, hsz]
        · by_cases hz : (hi.getD n).toNat - (lo.getD 0).toNat = 0
          · rw [hz]; exact R1.osl0
          · rcases hor with rfl | ⟨bb, rfl, hbb⟩
            · omega
            · rw [if_neg (by omega)]
              simp only [Option.map_some, addr_add]
              exact R1.osl hbb (by omega)
      · cases hf
    · cases hf
  · rename_i n el _ _ _ hT
    split at hf
    · rename_i e hE
      obtain ⟨ti, de, zv, hF, _⟩ := tok_of hw.tok hT
      obtain ⟨ti2, de2, zv2, hF2, _⟩ := tok_of hw.tok hE
      have hd := hF.desc
      cases de <;> simp only [descB] at hd <;> try cases hd
      simp only [Bool.and_eq_true, beq_iff_eq] at hd
      obtain ⟨rfl, rfl⟩ := hd
      have hsz := hF2.sizeOf w
      split at hf
      · rename_i l o
        simp only [Option.some.injEq, Prod.mk.injEq] at hf
        obtain ⟨rfl, rfl⟩ := hf
        obtain ⟨bb, rfl, hbb⟩ := RV_ptr hx
        have hb := run_bounds (P := C.P) (w := w) (isS := false) (n := n) (cap := n) (lo := lo) (hi := hi) (k := k) (k' := k') hp (Nat.le_refl _)
        obtain ⟨q0, q1, q2⟩ := hp
        refine ⟨.slice (some (if n = (lo.getD 0).toNat then ⟨bb, o, none⟩ else (⟨bb, o, none⟩ : Addr).add ((lo.getD 0).toNat * e.sz))) ((hi.getD n).toNat - (lo.getD 0).toNat) (n - (lo.getD 0).toNat), ?_, ?_⟩
        · simp [Instr.sliceAt, Instr.sureAddr, Sem.run_bind, hF.underlying w, hb, hsz]
        · by_cases hz : (hi.getD n).toNat - (lo.getD 0).toNat = 0
          · rw [hz]; exact R1.osl0
          · rw [if_neg (by omega)]
            simp only [addr_add]
            exact R1.osl hbb (by omega)
      · cases hf
    · cases hf
  · cases hf
def sliceF (T : Nat → Option TE) (t : Nat) (lo hi : Bool) : List D → Option (Prop × D)
  | [a] => match lo, hi with | false, false => sliceD T t a none none | _, _ => none
  | [a, .v (.int _ i)] => match lo, hi with | true, false => sliceD T t a (some i) none | false, true => sliceD T t a none (some i) | _, _ => none
  | [a, .v (.int _ i), .v (.int _ j)] => match lo, hi with | true, true => sliceD T t a (some i) (some j) | _, _ => none
  | _ => none
theorem DQ_slice {C : Cx} {o : Oper} {h : List (Option Bk)} {t : Nat} {x : Operand} {lo hi : Option Operand} {xs : List D} {d : D} {p : Prop} (ho : o.op = .slice t x lo hi none) (hf : sliceF C.T t lo.isSome hi.isSome xs = some (p, d)) (hp : p) : DQ C o xs h d := DQ_val fun bs w ρ hw ha => by
  rw [ho] at ha
  cases lo with
  | none =>
    cases hi with
    | none =>
      obtain ⟨a, rfl, h1⟩ := All2.one (a := x) ha
      obtain ⟨y, hy, hr⟩ := run_sliceD hw (k := .i64) (k' := .i64) h1 hf hp
      exact ⟨y, by simp only [Option.map] at hy; simp [execOp, ho, hy], hr⟩
    | some u =>
      obtain ⟨a, b, rfl, h1, h2⟩ := All2.two (a := x) (b := u) ha
      unfold sliceF at hf
      split at hf <;> try cases hf
      rename_i k i heq
      simp only [List.cons.injEq, and_true] at heq
      obtain ⟨rfl, rfl⟩ := heq
      obtain ⟨y, hy, hr⟩ := run_sliceD hw (k := .i64) (k' := k) h1 hf hp
      have := (RV_v h2).1
      exact ⟨y, by simp only [Option.map] at hy; simp [execOp, ho, this, hy], hr⟩
  | some v =>
    cases hi with
    | none =>
      obtain ⟨a, b, rfl, h1, h2⟩ := All2.two (a := x) (b := v) ha
      unfold sliceF at hf
      split at hf <;> try cases hf
      rename_i k i heq
      simp only [List.cons.injEq, and_true] at heq
      obtain ⟨rfl, rfl⟩ := heq
      obtain ⟨y, hy, hr⟩ := run_sliceD hw (k := k) (k' := .i64) h1 hf hp
      have := (RV_v h2).1
      exact ⟨y, by simp only [Option.map] at hy; simp [execOp, ho, this, hy], hr⟩
    | some u =>
      obtain ⟨a, b, c, rfl, h1, h2, h3⟩ := All2.three (a := x) (b := v) (c := u) ha
      unfold sliceF at hf
      split at hf <;> try cases hf
      rename_i k i k' j heq
      simp only [List.cons.injEq, and_true] at heq
      obtain ⟨rfl, rfl, rfl⟩ := heq
      obtain ⟨y, hy, hr⟩ := run_sliceD hw (k := k) (k' := k') h1 hf hp
      have e1 := (RV_v h2).1
      have e2 := (RV_v h3).1
      exact ⟨y, by simp only [Option.map] at hy; simp [execOp, ho, e1, e2, hy], hr⟩
end Go.Proofs.YtpibemolnjmgoaaDoor
