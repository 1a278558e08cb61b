/- The quiet operations, each by its run: part 3: addresses, fields, elements, lengths, slices. It speaks of no program of ours. -/
import Derived.Test.YtpibemolnjmgoaaDoorDe
namespace Go.Proofs.YtpibemolnjmgoaaDoor
set_option linter.unusedSimpArgs false
set_option linter.unusedVariables false
open Go.RowKit

def unF (op : UnOp) (u : Value) : Option (Prop × D) :=
  match op, u with
  | .neg, .int k n => wD k (0 - n)
  | .xor, .int .u8 n => some (0 ≤ n ∧ n ≤ 255, .v (.int .u8 (255 - n)))
  | .xor, .int .u32 n => some (0 ≤ n ∧ n ≤ 4294967295, .v (.int .u32 (4294967295 - n)))
  | .not, .bool b => some (True, .v (.bool (!b)))
  | _, _ => none
theorem xor_ones (k : Nat) {n : Nat} (h : n < 2 ^ k) : (2 ^ k - 1) ^^^ n = 2 ^ k - 1 - n := by
  have := BitVec.toNat_not (x := BitVec.ofNat k n)
  have h5 : (BitVec.ofNat k n).toNat = n := by simp; exact Nat.mod_eq_of_lt h
  have h6 : (~~~ (BitVec.ofNat k n)) = BitVec.allOnes k ^^^ BitVec.ofNat k n := by rw [BitVec.allOnes_xor]
  rw [h6, BitVec.toNat_xor, h5] at this
  simpa using this
theorem run_unF {P : Program} {w : World} {op : UnOp} {u : Value} {p : Prop} {d : D} (he : unF op u = some (p, d)) (hp : p) : ∃ x, (Op.unary op u).run P w = .ok x w ∧ d = .v x ∧ isC x = true := by
  unfold unF at he
  split at he
  · rename_i k n
    have := wD_spec he hp
    subst this
    exact ⟨.int k (k.wrap (0 - n)), by simp [Op.unary, Op.intArith], rfl, rfl⟩
  · rename_i n
    simp only [Option.some.injEq, Prod.mk.injEq] at he
    obtain ⟨rfl, rfl⟩ := he
    refine ⟨.int .u8 (255 - n), ?_, rfl, rfl⟩
    have h1 := bits_of (k := .u8) (a := 255) (by omega) (by simp [kHi])
    have h3 := bits_of (k := .u8) hp.1 hp.2
    have hb : n.toNat < 256 := by have := h3.2.1; simpa [IntKind.bits] using this
    have key : (255 : Nat) ^^^ n.toNat = 255 - n.toNat := xor_ones 8 hb
    have e : (BitVec.ofInt IntKind.u8.bits 255 ^^^ BitVec.ofInt IntKind.u8.bits n).toNat = 255 - n.toNat := by
      rw [BitVec.toNat_xor, h1.1, h3.1]; exact key
    show Result.ok (Value.int .u8 (IntKind.u8.wrap ((BitVec.ofInt IntKind.u8.bits 255 ^^^ BitVec.ofInt IntKind.u8.bits n).toNat : Int))) w = _
    rw [e, wrap_small (k := .u8) (by simp [IntKind.bits]; omega) (by simp [IntKind.signed])]
    have hn := hp.1; have hn2 := hp.2
    congr 2
    omega
  · rename_i n
    simp only [Option.some.injEq, Prod.mk.injEq] at he
    obtain ⟨rfl, rfl⟩ := he
    refine ⟨.int .u32 (4294967295 - n), ?_, rfl, rfl⟩
    have h1 := bits_of (k := .u32) (a := 4294967295) (by omega) (by simp [kHi])
    have h3 := bits_of (k := .u32) hp.1 hp.2
    have hb : n.toNat < 4294967296 := by have := h3.2.1; simpa [IntKind.bits] using this
    have key : (4294967295 : Nat) ^^^ n.toNat = 4294967295 - n.toNat := xor_ones 32 hb
    have e : (BitVec.ofInt IntKind.u32.bits 4294967295 ^^^ BitVec.ofInt IntKind.u32.bits n).toNat = 4294967295 - n.toNat := by
      rw [BitVec.toNat_xor, h1.1, h3.1]; exact key
    show Result.ok (Value.int .u32 (IntKind.u32.wrap ((BitVec.ofInt IntKind.u32.bits 4294967295 ^^^ BitVec.ofInt IntKind.u32.bits n).toNat : Int))) w = _
    rw [e, wrap_small (k := .u32) (by simp [IntKind.bits]; omega) (by simp [IntKind.signed])]
    have hn := hp.1; have hn2 := hp.2
    congr 2
    omega
  · simp only [Option.some.injEq, Prod.mk.injEq] at he
    obtain ⟨rfl, rfl⟩ := he
    exact ⟨_, rfl, rfl, rfl⟩
  · cases he
theorem DQ_unOp {C : Cx} {o : Oper} {h : List (Option Bk)} {op : UnOp} {t : TypeId} {x : Operand} {u : Value} {p : Prop} {d : D} (ho : o.op = .unOp op t x) (he : unF op u = some (p, d)) (hp : p) : DQ C o [.v u] h d := DQ_val fun bs w ρ hw ha => by
  rw [ho] at ha
  obtain ⟨a', h1, h2⟩ := ha.one
  cases h1
  have hx := (RV_v h2).1
  obtain ⟨v, hv, rfl, hc⟩ := run_unF (P := C.P) (w := w) he hp
  exact ⟨v, by simp [execOp, ho, hx, hv], R1.im (.v hc)⟩

/-! ### fields -/
theorem fields_at {fs : Array Field} {gs : List (Nat × Nat)} (h : (fs.toList.map (fun f => (f.type, f.offset)) == gs) = true) {i t o : Nat} (hi : gs[i]? = some (t, o)) : ∃ f, fs[i]? = some f ∧ f.type = t ∧ f.offset = o := by
  have h' := eq_of_beq h
  subst h'
  simp at hi
  obtain ⟨f, hf, h1, h2⟩ := hi
  exact ⟨f, hf, h1, h2⟩
def fieldF (T : Nat → Option TE) (s f : Nat) (d : D) : Option (Prop × D) :=
  match T s with
  | some ⟨.struct fs, _, _, _⟩ =>
    match fs[f]? with
    | some (t, off) => match T t with | some e => if aggB d = true then sub (aggT e.d) e.sz true d off else none | none => none
    | none => none
  | _ => none
/-- a part of an aggregate's value -/
theorem run_part {C : Cx} {w : World} {bs : List (Option Nat)} {h : List (Option Bk)} (hw : WR C h bs w) {t : Nat} {e : TE} (ht : C.T t = some e) {d r : D} {off : Nat} {p : Prop} (hs : sub (aggT e.d) e.sz true d off = some (p, r)) (hp : p)
    {cs : Array Value} (hn : cs.size = nc d) (hc : ∀ i (hi : i < cs.size), R1 C w bs cs[i] (cell d i)) : ∃ x, (part t cs off).run C.P w = .ok x w ∧ RV C w bs x r := by
  obtain ⟨i, de, zv, hf, _⟩ := tok_of hw.tok ht
  obtain ⟨s1, s2, s3⟩ := sub_spec hs hp
  unfold part
  simp only [Sem.run_bind, hf.isAgg w, Result.andThen_ok]
  cases ha : aggT e.d with
  | true =>
    rw [ha] at s1
    simp only [if_true] at s1
    refine ⟨.agg (cs.extract off (off + e.sz)), ?_, ?_⟩
    · simp [Sem.run_bind, hf.sizeOf w]
    · refine (RV_agg s1.1).2 ⟨_, rfl, by simp; omega, fun i hi => ?_⟩
      have hi' : i < nc r := by simp at hi; omega
      rw [s3 i hi']
      simpa using hc (off + i) (by omega)
  | false =>
    rw [ha] at s1
    have s1' : scB r = true := by simpa using s1
    obtain ⟨h1, h2⟩ := sc_cell s1' 0
    have hlt : off < cs.size := by omega
    refine ⟨cs[off], ?_, ?_⟩
    · simp [hlt]
    · have := hc off hlt
      have h3 := s3 0 (by omega)
      rw [h2] at h3
      rw [h3]
      simpa using (show R1 C w bs cs[off] (cell d (off + 0)) from by simpa using this) |> fun q => (h3 ▸ (RV_sc s1').2 (by rw [h3]; exact q) : RV C w bs cs[off] (cell d (off + 0)))
theorem DQ_field {C : Cx} {o : Oper} {h : List (Option Bk)} {s f : Nat} {x : Operand} {a d : D} {p : Prop} (ho : o.op = .field s x f) (hf : fieldF C.T s f a = some (p, d)) (hp : p) : DQ C o [a] h d := DQ_val fun bs w ρ hw ha => by
  rw [ho] at ha
  obtain ⟨a', h1, h2⟩ := ha.one
  cases h1
  unfold fieldF at hf
  split at hf
  · rename_i fs _ _ _ hT
    split at hf
    · rename_i t off hfs
      split at hf
      · rename_i e ht
        split at hf
        · rename_i hag
          obtain ⟨i, de, zv, hF, _⟩ := tok_of hw.tok hT
          have hd := hF.desc
          cases de <;> simp only [descB] at hd <;> try cases hd
          rename_i gs
          obtain ⟨fl, hfl, e1, e2⟩ := fields_at hd hfs
          obtain ⟨cs, hx, hn, hc⟩ := (RV_agg hag).1 h2
          obtain ⟨v, hv, hr⟩ := run_part hw ht hf hp hn hc
          refine ⟨v, ?_, hr⟩
          simp [execOp, ho, Instr.field, Sem.run_bind, hF.underlying w, hfl, hx, asAgg, e1, e2, hv]
        · cases hf
      · cases hf
    · cases hf
  · cases hf
def faddrF (T : Nat → Option TE) (s f : Nat) (d : D) : Option (Prop × D) :=
  match T s with
  | some ⟨.struct fs, _, _, _⟩ =>
    match fs[f]? with
    | some (t, off) =>
      match T t with
      | some e =>
        match d with
        | .ptr l o => some (e.sz ≠ 0, .ptr l (o + off))
        | .ip d => match sub (aggT e.d) e.sz true d off with
          | some (q, r) => some (e.sz ≠ 0 ∧ q, .ip r)
          | none => none
        | _ => none
      | none => none
    | none => none
  | _ => none
theorem DQ_faddr {C : Cx} {o : Oper} {h : List (Option Bk)} {s f : Nat} {x : Operand} {a d : D} {p : Prop} (ho : o.op = .fieldAddr s x f) (hf : faddrF C.T s f a = some (p, d)) (hp : p) : DQ C o [a] h d := DQ_val fun bs w ρ hw ha => by
  rw [ho] at ha
  obtain ⟨a', h1, h2⟩ := ha.one
  cases h1
  unfold faddrF at hf
  split at hf
  · rename_i fs _ _ _ hT
    split at hf
    · rename_i t off hfs
      split at hf
      · rename_i e ht
        obtain ⟨i, de, zv, hF, _⟩ := tok_of hw.tok hT
        obtain ⟨i2, de2, zv2, hF2, _⟩ := tok_of hw.tok ht
        have hd := hF.desc
        cases de <;> simp only [descB] at hd <;> try cases hd
        rename_i gs
        obtain ⟨fl, hfl, e1, e2⟩ := fields_at hd hfs
        have hsz := hF2.sizeOf w
        split at hf
        · rename_i l o'
          simp only [Option.some.injEq, Prod.mk.injEq] at hf
          obtain ⟨rfl, rfl⟩ := hf
          obtain ⟨b, hx, hb⟩ := RV_ptr h2
          refine ⟨.pointer (some ⟨b, o' + off, none⟩), ?_, R1.ptr hb⟩
          simp [execOp, ho, Instr.fieldAt, Sem.run_bind, hF.underlying w, hfl, hx, Instr.sureAddr, fieldPlace, e1, e2, hsz, hp, addr_add]
        · rename_i d0
          split at hf
          · rename_i q r hs
            simp only [Option.some.injEq, Prod.mk.injEq] at hf
            obtain ⟨rfl, rfl⟩ := hf
            obtain ⟨hz, hq⟩ := hp
            obtain ⟨b, off0, xs, hx, hb, hx2, hc2⟩ := RV_ip h2
            obtain ⟨s1, s2, s3⟩ := sub_spec hs hq
            refine ⟨.pointer (some ⟨b, off0 + off, none⟩), ?_, R1.im (.ip (fun j => xs (off + j)) hb (fun j hj => by rw [Nat.add_assoc]; exact hx2 _ (by omega)) (fun j hj => by rw [s3 j hj]; exact hc2 _ (by omega)))⟩
            simp [execOp, ho, Instr.fieldAt, Sem.run_bind, hF.underlying w, hfl, hx, Instr.sureAddr, fieldPlace, e1, e2, hsz, hz, addr_add]
          · cases hf
        · cases hf
      · cases hf
    · cases hf
  · cases hf

/-! ### elements -/
def indexF (T : Nat → Option TE) (t : Nat) (a i : D) : Option (Prop × D) :=
  match i with
  | .v (.int _ i) =>
    match a with
    | .v (.string s) => match T t with | some ⟨.str, _, _, _⟩ => some (0 ≤ i ∧ i < (L s).length, .v (.int .u8 ((L s).getD i.toNat 0).toNat)) | _ => none
    | .arr k n f => match T t with
      | some ⟨.array n' el, _, _, _⟩ => match T el with | some e => if (!aggT e.d && e.sz == 1) = true then some (0 ≤ i ∧ i < n' ∧ n' ≤ n, .v (.int k (f i.toNat))) else none | none => none
      | _ => none
    | _ => none
  | _ => none
theorem DQ_index {C : Cx} {o : Oper} {h : List (Option Bk)} {t : Nat} {x y : Operand} {a b d : D} {p : Prop} (ho : o.op = .index t x y) (hf : indexF C.T t a b = some (p, d)) (hp : p) : DQ C o [a, b] h d := DQ_val fun bs w ρ hw ha => by
  rw [ho] at ha
  obtain ⟨a', b', h1, h2, h3⟩ := ha.two
  cases h1
  unfold indexF at hf
  split at hf
  · rename_i k i
    have hy := (RV_v h3).1
    split at hf
    · rename_i s
      have hx := (RV_v h2).1
      split at hf
      · rename_i hT
        obtain ⟨ti, de, zv, hF, _⟩ := tok_of hw.tok hT
        have hd := hF.desc
        cases de <;> simp only [descB] at hd <;> try cases hd
        simp only [Option.some.injEq, Prod.mk.injEq] at hf
        obtain ⟨rfl, rfl⟩ := hf
        obtain ⟨h0, hl⟩ := hp
        have hlt : i.toNat < (L s).length := by omega
        have hs : s[i.toNat]? = some (L s)[i.toNat] := by
          have : i.toNat < s.size := by rw [size_L]; exact hlt
          rw [getElem?_pos s i.toNat this]
          congr 1
        refine ⟨.int .u8 ((L s).getD i.toNat 0).toNat, ?_, R1.im (.v rfl)⟩
        simp [execOp, ho, Instr.index, hx, hy, asIntOf, Sem.run_bind, hF.underlying w, h0, hs, hlt]
      · cases hf
    · rename_i k n f
      split at hf
      · rename_i n' el _ _ _ hT
        split at hf
        · rename_i e hE
          split at hf
          · rename_i hc
            simp only [Bool.and_eq_true, Bool.not_eq_true', beq_iff_eq] at hc
            simp only [Option.some.injEq, Prod.mk.injEq] at hf
            obtain ⟨rfl, rfl⟩ := hf
            obtain ⟨h0, hl, hle⟩ := hp
            obtain ⟨ti, de, zv, hF, _⟩ := tok_of hw.tok hT
            have hd := hF.desc
            cases de <;> simp only [descB] at hd <;> try cases hd
            simp only [Bool.and_eq_true, beq_iff_eq] at hd
            obtain ⟨rfl, rfl⟩ := hd
            obtain ⟨cs, hx, hn, hcs⟩ := (RV_agg (d := .arr k n f) rfl).1 h2
            obtain ⟨ti2, de2, zv2, hF2, _⟩ := tok_of hw.tok hE
            have hpt := run_part hw hE (d := .arr k n f) (off := i.toNat) (r := .v (.int k (f i.toNat))) (p := i.toNat < n) (by rw [hc.1]; simp [sub]) (by omega) hn hcs
            obtain ⟨v, hv, hr⟩ := hpt
            refine ⟨v, ?_, hr⟩
            simp [execOp, ho, Instr.index, hx, hy, asIntOf, Sem.run_bind, hF.underlying w, h0, hl, hF2.sizeOf w, hc.2, hv]
          · cases hf
        · cases hf
      · cases hf
    · cases hf
  · cases hf
def iaddrF (T : Nat → Option TE) (t : Nat) (a i : D) : Option (Prop × D) :=
  match i with
  | .v (.int _ i) =>
    match T t with
    | some ⟨.array n el, _, _, _⟩ =>
      match T el with
      | some e =>
        match a with
        | .ptr l o => some (0 ≤ i ∧ i < n, .ptr l (o + i.toNat * e.sz))
        | .ip d => match sub (aggT e.d) e.sz true d (i.toNat * e.sz) with
          | some (q, r) => some (0 ≤ i ∧ i < n ∧ q, .ip r)
          | none => none
        | _ => none
      | none => none
    | some ⟨.slice el, _, _, _⟩ =>
      match T el with
      | some e =>
        match a with
        | .sl l z f => some (0 ≤ i ∧ i < l.length ∧ nc (f (l.getD i.toNat z)) = e.sz, .ip (f (l.getD i.toNat z)))
        | .own l n _ _ => some (0 ≤ i ∧ i < n, .ptr l (i.toNat * e.sz))
        | .osl l o n => some (0 ≤ i ∧ i < n, .ptr l (o + i.toNat * e.sz))
        | _ => none
      | none => none
    | _ => none
  | _ => none
theorem DQ_iaddr {C : Cx} {o : Oper} {h : List (Option Bk)} {t : Nat} {x y : Operand} {a b d : D} {p : Prop} (ho : o.op = .indexAddr t x y) (hf : iaddrF C.T t a b = some (p, d)) (hp : p) : DQ C o [a, b] h d := DQ_val fun bs w ρ hw ha => by
  rw [ho] at ha
  obtain ⟨a', b', h1, h2, h3⟩ := ha.two
  cases h1
  unfold iaddrF at hf
  split at hf
  · rename_i k i
    have hy := (RV_v h3).1
    split at hf
    · rename_i n el _ _ _ hT
      split at hf
      · rename_i e hE
        obtain ⟨ti, de, zv, hF, _⟩ := tok_of hw.tok hT
        obtain ⟨ti2, de2, zv2, hF2, _⟩ := tok_of hw.tok hE
        have hd := hF.desc
        cases de <;> simp only [descB] at hd <;> try cases hd
        simp only [Bool.and_eq_true, beq_iff_eq] at hd
        obtain ⟨rfl, rfl⟩ := hd
        have hsz := hF2.sizeOf w
        split at hf
        · rename_i l off
          simp only [Option.some.injEq, Prod.mk.injEq] at hf
          obtain ⟨rfl, rfl⟩ := hf
          obtain ⟨bb, hx, hb⟩ := RV_ptr h2
          refine ⟨.pointer (some ⟨bb, off + i.toNat * e.sz, none⟩), ?_, R1.ptr hb⟩
          simp [execOp, ho, Instr.indexAt, hx, hy, asIntOf, Sem.run_bind, hF.underlying w, Instr.sureAddr, hp.1, hp.2, hsz, addr_add]
        · rename_i d0
          split at hf
          · rename_i q r hs
            simp only [Option.some.injEq, Prod.mk.injEq] at hf
            obtain ⟨rfl, rfl⟩ := hf
            obtain ⟨q1, q2, q3⟩ := hp
            obtain ⟨s1, s2, s3⟩ := sub_spec hs q3
            obtain ⟨bb, off0, xs, hx, hb, hx2, hc2⟩ := RV_ip h2
            refine ⟨.pointer (some ⟨bb, off0 + i.toNat * e.sz, none⟩), ?_, R1.im (.ip (fun j => xs (i.toNat * e.sz + j)) hb (fun j hj => by rw [Nat.add_assoc]; exact hx2 _ (by omega)) (fun j hj => by rw [s3 j hj]; exact hc2 _ (by omega)))⟩
            simp [execOp, ho, Instr.indexAt, hx, hy, asIntOf, Sem.run_bind, hF.underlying w, Instr.sureAddr, q1, q2, hsz, addr_add]
          · cases hf
        · cases hf
      · cases hf
    · rename_i el _ _ _ hT
      split at hf
      · rename_i e hE
        obtain ⟨ti, de, zv, hF, _⟩ := tok_of hw.tok hT
        obtain ⟨ti2, de2, zv2, hF2, _⟩ := tok_of hw.tok hE
        have hd := hF.desc
        cases de <;> simp only [descB] at hd <;> try cases hd
        simp only [beq_iff_eq] at hd
        subst hd
        have hsz := hF2.sizeOf w
        split at hf
        · rename_i α l z f
          simp only [Option.some.injEq, Prod.mk.injEq] at hf
          obtain ⟨rfl, rfl⟩ := hf
          obtain ⟨q1, q2, q3⟩ := hp
          obtain ⟨aa, cap, hx, hcap, hor⟩ := RV_sl h2
          rcases hor with rfl | ⟨bb, off, sz, xs, rfl, hb, hs, hx2, hc2⟩
          · simp at q2; omega
          · have hlt : i.toNat < l.length := by omega
            have hse : sz = e.sz := by rw [← hs _ hlt]; exact q3
            subst hse
            refine ⟨.pointer (some ⟨bb, off + i.toNat * e.sz, none⟩), ?_, R1.im (.ip (fun j => xs i.toNat j) hb (fun j hj => by rw [Nat.add_assoc]; exact hx2 _ _ hlt (by rw [← hs _ hlt]; exact hj)) (fun j hj => hc2 _ _ hlt (by rw [← hs _ hlt]; exact hj)))⟩
            simp [execOp, ho, Instr.indexAt, hx, hy, asIntOf, Sem.run_bind, hF.underlying w, q1, q2, hsz, addr_add]
        · rename_i l n _ _
          simp only [Option.some.injEq, Prod.mk.injEq] at hf
          obtain ⟨rfl, rfl⟩ := hf
          rcases RV_own h2 with ⟨_, rfl⟩ | ⟨bb, cap, hx, hb, _, hn, _⟩
          · have := hp.1; have := hp.2; omega
          refine ⟨.pointer (some ⟨bb, i.toNat * e.sz, none⟩), ?_, R1.ptr hb⟩
          simp [execOp, ho, Instr.indexAt, hx, hy, asIntOf, Sem.run_bind, hF.underlying w, hp.1, hp.2, hsz, addr_add]
        · rename_i l off n
          simp only [Option.some.injEq, Prod.mk.injEq] at hf
          obtain ⟨rfl, rfl⟩ := hf
          obtain ⟨aa, cap, hx, hn, hor⟩ := RV_osl h2
          rcases hor with rfl | ⟨bb, rfl, hb⟩
          · have := hp.1; have := hp.2; omega
          · refine ⟨.pointer (some ⟨bb, off + i.toNat * e.sz, none⟩), ?_, R1.ptr hb⟩
            simp [execOp, ho, Instr.indexAt, hx, hy, asIntOf, Sem.run_bind, hF.underlying w, hp.1, hp.2, hsz, addr_add]
        · cases hf
      · cases hf
    · cases hf
  · cases hf
end Go.Proofs.YtpibemolnjmgoaaDoor
