/- The quiet operations, each by its run: part 1. It speaks of no program of ours. -/
import Derived.Test.YtpibemolnjmgoaaDoorDc
namespace Go.Proofs.YtpibemolnjmgoaaDoor
set_option linter.unusedSimpArgs false
set_option linter.unusedVariables false
open Go.RowKit

theorem RV_v {C : Cx} {w : World} {bs : List (Option Nat)} {x u : Value} (hh : RV C w bs x (.v u)) : x = u ∧ isC x = true := by
  have h' : R1 C w bs x (.v u) := hh
  cases h' with
  | im h => cases h with | v h => exact ⟨rfl, h⟩
theorem RV_ip {C : Cx} {w : World} {bs : List (Option Nat)} {x : Value} {d : D} (hh : RV C w bs x (.ip d)) : ∃ (b off : Nat) (xs : Nat → Value), x = .pointer (some ⟨b, off, none⟩) ∧ Sf C w bs b ∧ (∀ j, j < nc d → w.cell? ⟨b, off + j, none⟩ = some (xs j)) ∧ ∀ j, j < nc d → RI w (Sf C w bs) (xs j) (cell d j) := by
  have h' : R1 C w bs x (.ip d) := hh
  cases h' with
  | im h => cases h with | ip xs hb hx hc => exact ⟨_, _, xs, rfl, hb, hx, hc⟩
theorem RV_ptr {C : Cx} {w : World} {bs : List (Option Nat)} {x : Value} {l o : Nat} (hh : RV C w bs x (.ptr l o)) : ∃ b, x = .pointer (some ⟨b, o, none⟩) ∧ bs[l]? = some (some b) := by
  have h' : R1 C w bs x (.ptr l o) := hh
  cases h' with
  | im h => cases h
  | ptr h => exact ⟨_, rfl, h⟩
theorem RV_own {C : Cx} {w : World} {bs : List (Option Nat)} {x : Value} {l n T sz : Nat} (hh : RV C w bs x (.own l n T sz)) : (x = .slice none 0 0 ∧ n = 0) ∨ ∃ b cap, x = .slice (some ⟨b, 0, none⟩) n cap ∧ bs[l]? = some (some b) ∧ w.shape? b = some (T, cap * sz) ∧ n ≤ cap ∧ cap ≤ maxLen := by
  have h' : R1 C w bs x (.own l n T sz) := hh
  cases h' with
  | im h => cases h
  | own h hs hn hc => exact .inr ⟨_, _, rfl, h, hs, hn, hc⟩
  | own0 => exact .inl ⟨rfl, rfl⟩
theorem RV_osl {C : Cx} {w : World} {bs : List (Option Nat)} {x : Value} {l o n : Nat} (hh : RV C w bs x (.osl l o n)) : ∃ a cap, x = .slice a n cap ∧ n ≤ cap ∧ (n = 0 ∨ ∃ b, a = some ⟨b, o, none⟩ ∧ bs[l]? = some (some b)) := by
  have h' : R1 C w bs x (.osl l o n) := hh
  cases h' with
  | im h => cases h
  | osl0 => exact ⟨_, _, rfl, Nat.zero_le _, .inl rfl⟩
  | osl h hn => exact ⟨_, _, rfl, hn, .inr ⟨_, rfl, h⟩⟩
theorem RV_sl {C : Cx} {w : World} {bs : List (Option Nat)} {x : Value} {α : Type} {l : List α} {z : α} {e : α → D} (hh : RV C w bs x (.sl l z e)) : ∃ a cap, x = .slice a l.length cap ∧ l.length ≤ cap ∧
    (l = [] ∨ ∃ (b off sz : Nat) (xs : Nat → Nat → Value), a = some ⟨b, off, none⟩ ∧ Sf C w bs b ∧ (∀ i, i < l.length → nc (e (l.getD i z)) = sz) ∧ (∀ i j, i < l.length → j < sz → w.cell? ⟨b, off + (i * sz + j), none⟩ = some (xs i j)) ∧ ∀ i j, i < l.length → j < sz → RI w (Sf C w bs) (xs i j) (cell (e (l.getD i z)) j)) := by
  have h' : R1 C w bs x (.sl l z e) := hh
  cases h' with
  | im h =>
    cases h with
    | sl0 => exact ⟨_, _, rfl, Nat.zero_le _, .inl rfl⟩
    | sl sz xs hb hcap hs hx hc => exact ⟨_, _, rfl, hcap, .inr ⟨_, _, sz, xs, rfl, hb, hs, hx, hc⟩⟩

theorem WR.at {C : Cx} {h : List (Option Bk)} {bs : List (Option Nat)} {w : World} (hw : WR C h bs w) {l b : Nat} {k : Bk} (hl : h[l]? = some (some k)) (hb : bs[l]? = some (some b)) : BR C w bs b k := by
  rcases hw.blk l k hl with ⟨b', hb', hB⟩ | ⟨T, sz, _, hn⟩
  · have : b' = b := by rw [hb] at hb'; simpa using hb'.symm
    subst this
    exact hB
  · rw [hb] at hn; simp at hn

theorem All2.one {α β : Type _} {R : α → β → Prop} {a : α} {l : List β} (h : All2 R [a] l) : ∃ d, l = [d] ∧ R a d := by
  cases h with | cons h1 h2 => cases h2; exact ⟨_, rfl, h1⟩
theorem All2.two {α β : Type _} {R : α → β → Prop} {a b : α} {l : List β} (h : All2 R [a, b] l) : ∃ d e, l = [d, e] ∧ R a d ∧ R b e := by
  cases h with | cons h1 h2 => obtain ⟨e, rfl, h3⟩ := h2.one; exact ⟨_, _, rfl, h1, h3⟩
theorem All2.three {α β : Type _} {R : α → β → Prop} {a b c : α} {l : List β} (h : All2 R [a, b, c] l) : ∃ d e f, l = [d, e, f] ∧ R a d ∧ R b e ∧ R c f := by
  cases h with | cons h1 h2 => obtain ⟨e, f, rfl, h3, h4⟩ := h2.two; exact ⟨_, _, _, rfl, h1, h3, h4⟩

theorem DQ_val {C : Cx} {o : Oper} {xs : List D} {h : List (Option Bk)} {d : D} (hrun : ∀ bs w (ρ : Operand → Value), WR C h bs w → All2 (fun x d => RV C w bs (ρ x) d) o.op.operands.toList xs →
    ∃ x, (execOp ρ o).run C.P w = .ok (.value x) w ∧ RV C w bs x d) : DQ C o xs h d := by
  intro bs w ρ hw ha
  obtain ⟨x, hx, hr⟩ := hrun bs w ρ hw ha
  rw [hx]
  exact ⟨hw, Ext.refl _ _ _, hr⟩

theorem DQ_move {C : Cx} {o : Oper} {h : List (Option Bk)} {x : Operand} {d : D} (ho : o.op = .move x ∨ o.op = .assign x) : DQ C o [d] h d := DQ_val fun bs w ρ hw ha => by
  have he : o.op.operands.toList = [x] := by rcases ho with ho | ho <;> (rw [ho]; rfl)
  rw [he] at ha
  obtain ⟨e, h1, h2⟩ := ha.one
  cases h1
  refine ⟨ρ x, ?_, h2⟩
  rcases ho with ho | ho <;> simp [execOp, ho]
theorem DQ_pick {C : Cx} {o : Oper} {h : List (Option Bk)} {c x y : Operand} {b : Bool} {d e : D} (ho : o.op = .pick c x y) : DQ C o [.v (.bool b), d, e] h (if b then d else e) := DQ_val fun bs w ρ hw ha => by
  rw [ho] at ha
  obtain ⟨d1, d2, d3, h0, h1, h2, h3⟩ := ha.three
  cases h0
  refine ⟨if b then ρ x else ρ y, ?_, ?_⟩
  · simp [execOp, ho, (RV_v h1).1, asBool]
  · cases b
    · exact h3
    · exact h2
theorem DQ_nilCheck {C : Cx} {o : Oper} {h : List (Option Bk)} {x : Operand} {d : D} (ho : o.op = .nilCheck x) (hd : (match d with | .ip _ => True | .ptr .. => True | .fn .. => True | _ => False)) : DQ C o [d] h d := DQ_val fun bs w ρ hw ha => by
  rw [ho] at ha
  obtain ⟨e, h1, h2⟩ := ha.one
  cases h1
  refine ⟨ρ x, ?_, h2⟩
  cases d <;> simp only at hd
  · obtain ⟨b, off, xs, e1, _⟩ := RV_ip h2
    simp [execOp, ho, e1]
  · obtain ⟨b, e1, _⟩ := RV_ptr h2
    simp [execOp, ho, e1]
  · have h' : R1 C w bs (ρ x) (.fn _ _) := h2
    have : ∃ f cs, ρ x = .func (.func f) #[] cs := by
      generalize ρ x = y at h'
      cases h' with
      | im h => cases h; exact ⟨_, _, rfl⟩
      | fn => exact ⟨_, _, rfl⟩
    obtain ⟨f, cs, e⟩ := this
    simp [execOp, ho, e]

/-! ### numbers -/
def kMod : IntKind → Int
  | .i8 | .u8 => 256
  | .i16 | .u16 => 65536
  | .i32 | .u32 => 4294967296
  | .i64 | .u64 => 18446744073709551616
def kLo : IntKind → Int
  | .i8 => -128
  | .i16 => -32768
  | .i32 => -2147483648
  | .i64 => -9223372036854775808
  | _ => 0
def kHi : IntKind → Int
  | .i8 => 127
  | .i16 => 32767
  | .i32 => 2147483647
  | .i64 => 9223372036854775807
  | .u8 => 255
  | .u16 => 65535
  | .u32 => 4294967295
  | .u64 => 18446744073709551615
def kBits : IntKind → Int
  | .i8 | .u8 => 8
  | .i16 | .u16 => 16
  | .i32 | .u32 => 32
  | .i64 | .u64 => 64
/-- a result of a kind: of a signed one it must fit, of an unsigned one it is taken modulo -/
def wD (k : IntKind) (r : Int) : Option (Prop × D) :=
  match k with
  | .i8 | .i16 | .i32 | .i64 => some (kLo k ≤ r ∧ r ≤ kHi k, .v (.int k r))
  | _ => some (True, .v (.int k (r % kMod k)))
theorem wD_spec {k : IntKind} {r : Int} {p : Prop} {d : D} (h : wD k r = some (p, d)) (hp : p) : d = .v (.int k (k.wrap r)) := by
  cases k <;> simp only [wD, Option.some.injEq, Prod.mk.injEq] at h <;> obtain ⟨rfl, rfl⟩ := h <;> simp only [kLo, kHi, kMod] at * <;> congr 2 <;> simp [IntKind.wrap, IntKind.bits, IntKind.signed] <;> (try split) <;> omega
def binI (op : BinOp) (k : IntKind) (a b : Int) : Option (Prop × D) :=
  match op with
  | .add => wD k (a + b)
  | .sub => wD k (a - b)
  | .mul => wD k (a * b)
  | .quo => some (0 ≤ a ∧ a ≤ kHi k ∧ 0 < b, .v (.int k (a / b)))
  | .rem => some (0 ≤ a ∧ 0 < b, .v (.int k (a % b)))
  | .and => some (0 ≤ a ∧ a ≤ kHi k ∧ 0 ≤ b ∧ b ≤ kHi k, .v (.int k ((a.toNat &&& b.toNat : Nat) : Int)))
  | .or => some (0 ≤ a ∧ a ≤ kHi k ∧ 0 ≤ b ∧ b ≤ kHi k, .v (.int k ((a.toNat ||| b.toNat : Nat) : Int)))
  | .xor => some (0 ≤ a ∧ a ≤ kHi k ∧ 0 ≤ b ∧ b ≤ kHi k, .v (.int k ((a.toNat ^^^ b.toNat : Nat) : Int)))
  | .eql => some (True, .v (.bool (decide (a = b))))
  | .neq => some (True, .v (.bool (!decide (a = b))))
  | .lss => some (True, .v (.bool (decide (a < b))))
  | .leq => some (True, .v (.bool (decide (a ≤ b))))
  | .gtr => some (True, .v (.bool (decide (b < a))))
  | .geq => some (True, .v (.bool (decide (b ≤ a))))
  | _ => none
def shI (op : BinOp) (k : IntKind) (a b : Int) : Option (Prop × D) :=
  match op with
  | .shl => match wD k (a * 2 ^ b.toNat) with
    | some (p, d) => some (0 ≤ b ∧ b ≤ kBits k ∧ p, d)
    | none => none
  | .shr => some (0 ≤ b ∧ b ≤ kBits k, .v (.int k (a / 2 ^ b.toNat)))
  | _ => none
theorem pow_kBits (k : IntKind) : (kMod k) = ((2 ^ k.bits : Nat) : Int) := by cases k <;> rfl
theorem bits_of {k : IntKind} {a : Int} (h0 : 0 ≤ a) (h1 : a ≤ kHi k) : (BitVec.ofInt k.bits a).toNat = a.toNat ∧ a.toNat < 2 ^ k.bits ∧ (k.signed = true → a.toNat < 2 ^ (k.bits - 1)) := by
  refine ⟨?_, ?_, ?_⟩
  · rw [BitVec.toNat_ofInt]
    rw [Int.emod_eq_of_lt h0]
    cases k <;> simp only [kHi, IntKind.bits] at * <;> omega
  · cases k <;> simp only [kHi, IntKind.bits] at * <;> omega
  · cases k <;> simp only [kHi, IntKind.bits, IntKind.signed] at * <;> intro h <;> first | (cases h; done) | omega
theorem wrap_small {k : IntKind} {n : Nat} (h : n < 2 ^ k.bits) (hs : k.signed = true → n < 2 ^ (k.bits - 1)) : k.wrap (n : Int) = n := by
  cases k <;> simp [IntKind.wrap, IntKind.bits, IntKind.signed] at * <;> omega
theorem run_binI {P : Program} {w : World} {op : BinOp} {k : IntKind} {a b : Int} {p : Prop} {d : D} (h : binI op k a b = some (p, d)) (hp : p) :
    ∃ x, (match op with | .add | .sub | .mul => Op.intArith op k a b | .quo | .rem => Op.intDiv op k a b | .and | .or | .xor | .andNot => Op.intBits op k a b | _ => Op.intCmp op a b : Sem Value).run P w = .ok x w ∧ d = .v x ∧ isC x = true := by
  cases op <;> simp only [binI, Option.some.injEq, Prod.mk.injEq, reduceCtorEq] at h
  case add => exact ⟨_, rfl, wD_spec h hp, rfl⟩
  case sub => exact ⟨_, rfl, wD_spec h hp, rfl⟩
  case mul => exact ⟨_, rfl, wD_spec h hp, rfl⟩
  case quo =>
    obtain ⟨rfl, rfl⟩ := h
    obtain ⟨h0, h1, h2⟩ := hp
    refine ⟨.int k (a / b), ?_, rfl, rfl⟩
    have hq : 0 ≤ a / b := Int.ediv_nonneg h0 (by omega)
    have hq2 : a / b ≤ a := Int.ediv_le_self _ h0
    have hw : k.wrap (a / b) = a / b := by
      have hh := bits_of (k := k) hq (by omega)
      have := wrap_small hh.2.1 hh.2.2
      rwa [Int.toNat_of_nonneg hq] at this
    simp [Op.intDiv, show b ≠ 0 by omega, Int.tdiv_eq_ediv_of_nonneg h0, hw]
  case rem =>
    obtain ⟨rfl, rfl⟩ := h
    obtain ⟨h0, h2⟩ := hp
    refine ⟨.int k (a % b), ?_, rfl, rfl⟩
    simp [Op.intDiv, show b ≠ 0 by omega, Int.tmod_eq_emod_of_nonneg h0]
  case and =>
    obtain ⟨rfl, rfl⟩ := h
    obtain ⟨h0, h1, h2, h3⟩ := hp
    obtain ⟨a1, a2, a3⟩ := bits_of (k := k) h0 h1
    obtain ⟨b1, b2, b3⟩ := bits_of (k := k) h2 h3
    refine ⟨_, ?_, rfl, rfl⟩
    simp only [Op.intBits, BitVec.toNat_and, a1, b1]
    rw [wrap_small (Nat.and_lt_two_pow _ b2) fun hs => Nat.and_lt_two_pow _ (b3 hs)]
    rfl
  case or =>
    obtain ⟨rfl, rfl⟩ := h
    obtain ⟨h0, h1, h2, h3⟩ := hp
    obtain ⟨a1, a2, a3⟩ := bits_of (k := k) h0 h1
    obtain ⟨b1, b2, b3⟩ := bits_of (k := k) h2 h3
    refine ⟨_, ?_, rfl, rfl⟩
    simp only [Op.intBits, BitVec.toNat_or, a1, b1]
    rw [wrap_small (Nat.or_lt_two_pow a2 b2) fun hs => Nat.or_lt_two_pow (a3 hs) (b3 hs)]
    rfl
  case xor =>
    obtain ⟨rfl, rfl⟩ := h
    obtain ⟨h0, h1, h2, h3⟩ := hp
    obtain ⟨a1, a2, a3⟩ := bits_of (k := k) h0 h1
    obtain ⟨b1, b2, b3⟩ := bits_of (k := k) h2 h3
    refine ⟨_, ?_, rfl, rfl⟩
    simp only [Op.intBits, BitVec.toNat_xor, a1, b1]
    rw [wrap_small (Nat.xor_lt_two_pow a2 b2) fun hs => Nat.xor_lt_two_pow (a3 hs) (b3 hs)]
    rfl
  all_goals
    obtain ⟨rfl, rfl⟩ := h
    refine ⟨_, ?_, rfl, rfl⟩
    simp [Op.intCmp, bne, BEq.beq]
theorem kBits_eq (k : IntKind) : kBits k = (k.bits : Int) := by cases k <;> rfl
theorem run_shI {P : Program} {w : World} {op : BinOp} {k k' : IntKind} {a b : Int} {p : Prop} {d : D} (h : shI op k a b = some (p, d)) (hp : p) :
    ∃ x, (Op.shift op k a k' b).run P w = .ok x w ∧ d = .v x ∧ isC x = true := by
  cases op <;> simp only [shI, Option.some.injEq, Prod.mk.injEq, reduceCtorEq] at h
  case shl =>
    split at h
    · rename_i p' d' hw
      simp only [Option.some.injEq, Prod.mk.injEq] at h
      obtain ⟨rfl, rfl⟩ := h
      obtain ⟨h0, h1, h2⟩ := hp
      rw [kBits_eq] at h1
      rw [shift_shl k k' a b h0 h1]
      exact ⟨_, rfl, wD_spec hw h2, rfl⟩
    · cases h
  case shr =>
    obtain ⟨rfl, rfl⟩ := h
    obtain ⟨h0, h1⟩ := hp
    rw [kBits_eq] at h1
    rw [shift_shr k k' a b h0 h1]
    exact ⟨_, rfl, rfl, rfl⟩

/-! ### texts -/
def binS (op : BinOp) (a b : ByteArray) : Option (Prop × D) :=
  match op with
  | .add => some (((L a).length : Int) + (L b).length ≤ 9223372036854775807, .v (.string (B (L a ++ L b))))
  | .eql => some (True, .v (.bool (decide (L a = L b))))
  | .neq => some (True, .v (.bool (!decide (L a = L b))))
  | .lss => some (True, .v (.bool (Op.bytesLess (L a) (L b))))
  | .gtr => some (True, .v (.bool (!(Op.bytesLess (L a) (L b) || decide (L a = L b)))))
  | .leq => some (True, .v (.bool (Op.bytesLess (L a) (L b) || decide (L a = L b))))
  | .geq => some (True, .v (.bool (!Op.bytesLess (L a) (L b))))
  | _ => none
theorem size_L (s : ByteArray) : s.size = (L s).length := by obtain ⟨⟨l⟩⟩ := s; rfl
theorem append_L (a b : ByteArray) : a ++ b = B (L a ++ L b) := by
  apply ByteArray.ext
  simp [B, L, ByteArray.data_append]
theorem toList_L (s : ByteArray) : s.toList = L s := ByteArray.toList_eq s
theorem run_binS {P : Program} {w : World} {op : BinOp} {a b : ByteArray} {p : Prop} {d : D} (h : binS op a b = some (p, d)) (hp : p) :
    ∃ x, (Op.stringOp op a b).run P w = .ok x w ∧ d = .v x ∧ isC x = true := by
  cases op <;> simp only [binS, Option.some.injEq, Prod.mk.injEq, reduceCtorEq] at h <;> obtain ⟨rfl, rfl⟩ := h
  case add =>
    rw [run_string_add_sum w a b (by rw [size_L, size_L]; omega), append_L]
    exact ⟨_, rfl, rfl, rfl⟩
  all_goals
    refine ⟨_, ?_, rfl, rfl⟩
    have e : (L a == L b) = decide (L a = L b) := by rw [Bool.eq_iff_iff]; simp
    simp [Op.stringOp, toList_L, e]
end Go.Proofs.YtpibemolnjmgoaaDoor

