/- Chains' starts. Chains' starts, handed on one by one. Digits of a number. Digits of a text. A seed's sum, and its signatures. Signatures. The document's digits are a text's. The document's signatures; what is recovered from signatures. What the document recovers; lists compared. -/
import Derived.Test.YtedioenakmgdiaaDoorBPD
import Derived.Test.YtedioenakmgdiaaDoorBPG
namespace Go.Proofs.YtedioenakmgdiaaDoor
set_option linter.unusedSimpArgs false
set_option linter.unusedVariables false
set_option maxRecDepth 10000
open Go.RowKit
end Go.Proofs.YtedioenakmgdiaaDoor

namespace Go.Proofs.YtedioenakmgdiaaDoor
set_option linter.unusedSimpArgs false
set_option linter.unusedVariables false
set_option maxRecDepth 10000
open Go.RowKit
end Go.Proofs.YtedioenakmgdiaaDoor

namespace Go.Proofs.YtedioenakmgdiaaDoor
set_option linter.unusedSimpArgs false
set_option linter.unusedVariables false
set_option maxRecDepth 10000
open Go.RowKit
def nD (d : Nat) : D := .v (.int .i64 (d : Int))
def splitS (n : Nat) : Nat → List Nat
  | 0 => []
  | k + 1 => splitS n k ++ [n / 4 ^ k % 4]
theorem splitS_len (n k : Nat) : (splitS n k).length = k := by
  induction k with
  | zero => rfl
  | succ k ih => simp [splitS, ih]
theorem and3 (x : Nat) : ((x &&& 3 : Nat) : Int) = ((x % 4 : Nat) : Int) := by
  have : x &&& 3 = x % 2 ^ 2 := Nat.and_two_pow_sub_one_eq_mod x 2
  rw [this]
theorem shr2 (x : Nat) : (x : Int) / (2 : Int) ^ 2 = ((x / 4 : Nat) : Int) := by omega
set_option maxHeartbeats 2000000 in
theorem split_c (n many : Nat) (hn : n ≤ 1000000) (hm : many ≤ 1000000) : PC (envOf Tryd.prog) 114 [nD n, nD many] (.sl (splitS n many) 0 nD) := by
  have hnD : ∀ d : Nat, nD d = .v (.int .i64 (d : Int)) := fun _ => rfl
  have hX := and_true; refine PC_atX Tryd.func114 rfl Tryd.ntmps114 Tryd.results114 rfl (by simp only [argsL, Nat.reduceAdd, u32D, u8D, iD, bD, strD, u32_xor, u32_or, u32_and, u32_add, u32_not, u32_shr, u32_shl, u8_u32, u32_u8]; exact rfl) ?_; intro w0 A
  have hX := And.intro hnD (and_true)
  (repeat refine DX_seq ?_); refine rgx [0, 1] ?_
  (repeat refine DX_seq ?_); refine rgx [0, 1, 5] ?_
  (repeat refine DX_seq ?_); refine rgx [0, 5, 6, 7] ?_
  (repeat refine DX_seq ?_); refine DX_block ?_
  refine DX_weak (fun _ _ _ _ => Weak.nil_own 5 3 1 rfl) ?_
  refine DX_loop (fun m _ st => ∃ k, k + m = many ∧ st = mk [(0, nD (n / 4 ^ k)), (5, .own 0 k 3 1), (6, nD many), (7, nD k)] [some (.row ((splitS n k).map nD) 3 1)]) many ⟨_, WeakX.pick [0, 5, 6, 7], 0, by omega, ?_⟩ ?_
  · rw [Nat.pow_zero, Nat.div_one]; rfl
  rintro m _ _ ⟨k, hk, rfl⟩
  (repeat refine DX_seq ?_); refine rgx [0, 5, 6, 7, 8] ?_
  (repeat refine DX_seq ?_); refine ifx ?_ ?_
  · intro hc
    have hkn : k < many := by have := of_decide_eq_true hc; omega
    have hl := splitS_len n k
    have hd : n / 4 ^ k ≤ n := Nat.div_le_self _ _
    generalize hx : n / 4 ^ k = x at hd
    have e1 := and3 x
    have e2 := shr2 x
    (repeat refine DX_seq ?_); refine DX_skip ?_
    (repeat refine DX_seq ?_); refine DX_block ?_
    have hX := And.intro hnD (And.intro hl (And.intro e1 (e2)))
    (repeat refine DX_seq ?_); refine rgx [0, 5, 6, 7] ?_
    (repeat refine DX_seq ?_); refine rgx [0, 5, 6, 7] ?_
    (repeat refine DX_seq ?_); refine rgx [0, 5, 6, 7] ?_
    refine ⟨_, m - 1, WeakX.refl _, by omega, k + 1, by omega, ?_⟩
    subst hx
    simp [nD, splitS, Nat.pow_succ, Nat.div_div_eq_div_mul]
  · intro hc
    have hkn : k = many := by have := of_decide_eq_false hc; omega
    subst hkn
    refine DX_exit ?_
    (repeat refine DX_seq ?_); refine rgx [4] ?_
    (repeat refine DX_seq ?_); refine DX_ret ?_; refine retx ?_; (try dsimp only [outV, unlist])
    refine Fin_elems rfl (by simp only [elems, List.getElem?_cons_zero]; exact rfl) (by simp [splitS_len]) ?_ (fun _ => rfl)
    rw [List.take_of_length_le (by simp [splitS_len])]
/-- digits of bytes -/
def digP (m : List UInt8) : Nat → List Nat
  | 0 => []
  | k + 1 => digP m k ++ splitS (m.getD k 0).toNat 4
def lackP (l : List Nat) : Nat → Nat
  | 0 => 0
  | k + 1 => lackP l k + (3 - l.getD k 0)
def digS (text : List UInt8) : List Nat := digP (midS text) 16 ++ splitS (lackP (digP (midS text) 16) 64) 4
theorem digP_len (m : List UInt8) (k : Nat) : (digP m k).length = 4 * k := by
  induction k with
  | zero => rfl
  | succ k ih => simp [digP, ih, splitS_len]; omega
theorem splitS_lt (n k : Nat) : ∀ d ∈ splitS n k, d ≤ 3 := by
  induction k with
  | zero => intro d hd; cases hd
  | succ k ih =>
    intro d hd
    simp only [splitS, List.mem_append, List.mem_cons, List.not_mem_nil, or_false] at hd
    rcases hd with h | h
    · exact ih d h
    · omega
theorem digP_lt (m : List UInt8) (k : Nat) : ∀ d ∈ digP m k, d ≤ 3 := by
  induction k with
  | zero => intro d hd; cases hd
  | succ k ih =>
    intro d hd
    simp only [digP, List.mem_append] at hd
    rcases hd with h | h
    · exact ih d h
    · exact splitS_lt _ _ d h
theorem getD_le {l : List Nat} {b : Nat} (h : ∀ d ∈ l, d ≤ b) (k : Nat) : l.getD k 0 ≤ b := by
  rw [List.getD_eq_getElem?_getD]
  cases hk : l[k]? with
  | none => simp
  | some d => simpa using h d (List.mem_of_getElem? hk)
theorem lackP_le (l : List Nat) (k : Nat) : lackP l k ≤ 3 * k := by
  induction k with
  | zero => simp [lackP]
  | succ k ih => unfold lackP; omega
theorem digS_len (text : List UInt8) : (digS text).length = 68 := by simp [digS, digP_len, splitS_len]
theorem digS_lt (text : List UInt8) : ∀ d ∈ digS text, d ≤ 3 := by
  intro d hd
  simp only [digS, List.mem_append] at hd
  rcases hd with h | h
  · exact digP_lt _ _ d h
  · exact splitS_lt _ _ d h
end Go.Proofs.YtedioenakmgdiaaDoor

namespace Go.Proofs.YtedioenakmgdiaaDoor
set_option linter.unusedSimpArgs false
set_option linter.unusedVariables false
set_option maxRecDepth 10000
open Go.RowKit
set_option maxHeartbeats 4000000 in
theorem digits_c (text : List UInt8) (ht : text.length ≤ 1000000) : PC (envOf Tryd.prog) 100 [strD text] (.sl (digS text) 0 nD) := by
  have hnD : ∀ d : Nat, nD d = .v (.int .i64 (d : Int)) := fun _ => rfl
  have hml := midS_len text
  unfold digS
  have hX := and_true; refine PC_atX Tryd.func100 rfl Tryd.ntmps100 Tryd.results100 rfl (by simp only [argsL, Nat.reduceAdd, u32D, u8D, iD, bD, strD, u32_xor, u32_or, u32_and, u32_add, u32_not, u32_shr, u32_shl, u8_u32, u32_u8]; exact rfl) ?_; intro w0 A
  have hX := And.intro hnD (hml)
  have hK := And.intro (midS_c text (by omega)) trivial; (repeat refine DX_seq ?_); refine rgx [0] ?_
  (repeat refine DX_seq ?_); refine rgx [0, 3] ?_
  (repeat refine DX_seq ?_); refine rgx [3, 4] ?_
  generalize midS text = m at hml ⊢
  have hX := And.intro hnD (hml)
  (repeat refine DX_seq ?_); refine rgx [3, 4, 12, 13] ?_
  (repeat refine DX_seq ?_); refine DX_block ?_
  refine DX_weak (fun _ _ _ _ => Weak.nil_own 3 3 1 rfl) ?_
  refine DX_loop (fun j _ st => ∃ k, k + j = 16 ∧ st = mk [(3, .own 0 (4 * k) 3 1), (4, strD m), (12, nD 16), (13, nD k)] [some (.row ((digP m k).map nD) 3 1)]) 16 ⟨_, WeakX.pick [3, 4, 12, 13], 0, by omega, ?_⟩ ?_
  · rfl
  rintro j _ _ ⟨k, hk, rfl⟩
  (repeat refine DX_seq ?_); refine rgx [3, 4, 12, 13, 14] ?_
  (repeat refine DX_seq ?_); refine ifx ?_ ?_
  · intro hc
    have hkn : k < 16 := by have := of_decide_eq_true hc; omega
    have hl := digP_len m k
    generalize hx : (m.getD k 0).toNat = x
    have hxl : x < 256 := by rw [← hx]; exact UInt8.toNat_lt _
    (repeat refine DX_seq ?_); refine DX_skip ?_
    (repeat refine DX_seq ?_); refine DX_block ?_
    have h4 := splitS_len x 4
    have hX := And.intro hnD (And.intro hl (And.intro hx (And.intro hml (h4))))
    have hK := And.intro (split_c x 4 (by omega) (by omega)) trivial; (repeat refine DX_seq ?_); refine rgx [3, 4, 5, 12, 13] ?_
    (repeat refine DX_seq ?_); refine rgx [3, 4, 12, 13] ?_
    (repeat refine DX_seq ?_); refine rgx [3, 4, 12, 13] ?_
    refine ⟨_, j - 1, WeakX.refl _, by omega, k + 1, by omega, ?_⟩
    subst hx
    simp [nD, digP, Nat.mul_add, strD, splitS_len]
  · intro hc
    have hkn : k = 16 := by have := of_decide_eq_false hc; omega
    subst hkn
    refine DX_exit ?_
    have hl := digP_len m 16
    have hlt := digP_lt m 16
    generalize digP m 16 = l at hl hlt ⊢
    have hX := And.intro hnD (hl)
    (repeat refine DX_seq ?_); refine rgx [3, 6] ?_
    (repeat refine DX_seq ?_); refine rgx [3, 6, 24, 25, 26] ?_
    clear hc
    (repeat refine DX_seq ?_); refine DX_block ?_
    refine DX_loop (fun j _ st => ∃ k, k + j = 64 ∧ st = mk [(3, .own 0 64 3 1), (6, nD (lackP l k)), (24, .own 0 64 3 1), (25, nD 64), (26, nD k)] [some (.row (l.map nD) 3 1)]) 64 ⟨_, WeakX.refl _, 0, by omega, rfl⟩ ?_
    clear hk j
    rintro j _ _ ⟨k, hk, rfl⟩
    (repeat refine DX_seq ?_); refine rgx [3, 6, 24, 25, 26, 27] ?_
    (repeat refine DX_seq ?_); refine ifx ?_ ?_
    · intro hc
      have hkn : k < 64 := by have := of_decide_eq_true hc; omega
      (repeat refine DX_seq ?_); refine DX_skip ?_
      (repeat refine DX_seq ?_); refine DX_block ?_
      have hdl := getD_le hlt k
      have hll := lackP_le l k
      generalize hx : l.getD k 0 = x at hdl
      have hget : (l.map nD).getD k .dead = .v (.int .i64 (x : Int)) := by
        have hk' : k < l.length := by omega
        rw [← hx]
        simp [List.getD_eq_getElem?_getD, hk', nD]
      have e3 : (3 : Int) - (x : Int) = ((3 - x : Nat) : Int) := by omega
      have hX := And.intro hnD (And.intro hl (And.intro hget (And.intro Nat.div_one (And.intro Nat.mod_one (e3)))))
      (repeat refine DX_seq ?_); refine rgx [3, 6, 8, 24, 25, 26] ?_
      (repeat refine DX_seq ?_); refine rgx [3, 6, 24, 25, 26] ?_
      (repeat refine DX_seq ?_); refine rgx [3, 6, 24, 25, 26] ?_
      refine ⟨_, j - 1, WeakX.refl _, by omega, k + 1, by omega, ?_⟩
      subst hx
      simp [nD, lackP]
    · intro hc
      have hkn : k = 64 := by have := of_decide_eq_false hc; omega
      subst hkn
      have hll := lackP_le l 64
      have h4 := splitS_len (lackP l 64) 4
      refine DX_exit ?_
      have hX := And.intro hnD (And.intro hl (h4))
      have hK := And.intro (split_c (lackP l 64) 4 (by omega) (by omega)) trivial; (repeat refine DX_seq ?_); refine rgx [2] ?_
      (repeat refine DX_seq ?_); refine DX_ret ?_; refine retx ?_; (try dsimp only [outV, unlist])
      refine Fin_elems rfl (by simp only [elems, List.getElem?_cons_zero]; exact rfl) (by simp [hl, h4]) ?_ (fun _ => rfl)
      rw [List.take_of_length_le (by simp [hl, h4])]
      simp
end Go.Proofs.YtedioenakmgdiaaDoor

namespace Go.Proofs.YtedioenakmgdiaaDoor
set_option linter.unusedSimpArgs false
set_option linter.unusedVariables false
set_option maxRecDepth 10000
open Go.RowKit
theorem byteD_four : byteD 4 = .v (.int .u8 4) := rfl
end Go.Proofs.YtedioenakmgdiaaDoor

namespace Go.Proofs.YtedioenakmgdiaaDoor
set_option linter.unusedSimpArgs false
set_option linter.unusedVariables false
set_option maxRecDepth 10000
open Go.RowKit
/-- a digit of a text -/
def digA (text : List UInt8) (k : Nat) : Nat := (digS text).getD k 0
theorem digA_le (text : List UInt8) (k : Nat) : digA text k ≤ 3 := getD_le (digS_lt text) k
theorem refsumS_c (l : List UInt8) (hl : l.length ≤ 1048576) : PC (envOf Tryd.prog) 25 [strD l] (hashD (sumP l)) := by
  have := refsum_c l hl
  rwa [← sum_eq] at this
end Go.Proofs.YtedioenakmgdiaaDoor

namespace Go.Proofs.YtedioenakmgdiaaDoor
set_option linter.unusedSimpArgs false
set_option linter.unusedVariables false
set_option maxRecDepth 10000
open Go.RowKit
theorem lackP_app (a b : List Nat) (k : Nat) (hk : k ≤ b.length) : lackP (a ++ b) (a.length + k) = lackP a a.length + lackP b k := by
  induction k with
  | zero =>
    have : ∀ j, j ≤ a.length → lackP (a ++ b) j = lackP a j := by
      intro j hj
      induction j with
      | zero => rfl
      | succ j ih =>
        simp only [lackP]
        rw [ih (by omega)]
        simp [List.getD_eq_getElem?_getD, List.getElem?_append_left (show j < a.length by omega)]
    simpa [lackP] using this a.length (Nat.le_refl _)
  | succ k ih =>
    rw [← Nat.add_assoc]
    simp only [lackP]
    rw [ih (by omega)]
    have : (a ++ b).getD (a.length + k) 0 = b.getD k 0 := by simp [List.getD_eq_getElem?_getD, List.getElem?_append_right]
    rw [this]
    omega
theorem lackP_snoc (l : List Nat) (x : Nat) : lackP (l ++ [x]) (l.length + 1) = lackP l l.length + (3 - x) := by
  have := lackP_app l [x] 1 (by simp)
  simpa [lackP] using this
set_option maxHeartbeats 8000000 in
theorem refdigits_c (text : List UInt8) (ht : text.length ≤ 1000000) : PC (envOf Tryd.prog) 96 [strD text] (.sl (digS text) 0 nD) := by
  have hnD : ∀ d : Nat, nD d = .v (.int .i64 (d : Int)) := fun _ => rfl
  have hml := midS_len text
  unfold digS
  have hX := and_true; refine PC_atX Tryd.func96 rfl Tryd.ntmps96 Tryd.results96 rfl (by simp only [argsL, Nat.reduceAdd, u32D, u8D, iD, bD, strD, u32_xor, u32_or, u32_and, u32_add, u32_not, u32_shr, u32_shl, u8_u32, u32_u8]; exact rfl) ?_; intro w0 A
  have hX := And.intro hnD (hml)
  have hK := And.intro (refmidS_c text (by omega)) trivial; (repeat refine DX_seq ?_); refine rgx [0] ?_
  (repeat refine DX_seq ?_); refine rgx [3] ?_
  (repeat refine DX_seq ?_); refine rgx [3, 4] ?_
  (repeat refine DX_seq ?_); refine rgx [3, 4, 5] ?_
  (repeat refine DX_seq ?_); refine rgx [3, 4, 5, 6] ?_
  generalize midS text = m at hml ⊢
  (repeat refine DX_seq ?_); refine DX_block ?_
  refine DX_weak (fun _ _ _ _ => Weak.nil_own 4 3 1 rfl) ?_
  (repeat refine DX_seq ?_); refine DX_loop (fun j _ st => ∃ k, k + j = 16 ∧ st = mk [(3, strD m), (4, .own 0 (4 * k) 3 1), (5, nD (lackP (digP m k) (4 * k))), (6, nD k)] [some (.row ((digP m k).map nD) 3 1)]) 16 ⟨_, WeakX.pick [3, 4, 5, 6], 0, by omega, rfl⟩ ?_
  rintro j _ _ ⟨k, hk, rfl⟩
  have hX := And.intro hnD (hml)
  (repeat refine DX_seq ?_); refine rgx [3, 4, 5, 6, 13] ?_
  (repeat refine DX_seq ?_); refine ifx ?_ ?_
  · intro hc; (try simp only [hcs, ne_eq] at hc)
    have hl := digP_len m k
    generalize hx : (m.getD k 0).toNat = x
    have hxl : x < 256 := by rw [← hx]; exact UInt8.toNat_lt _
    (repeat refine DX_seq ?_); refine DX_skip ?_
    (repeat refine DX_seq ?_); refine DX_block ?_
    have hX := And.intro hnD (And.intro hml (hx))
    (repeat refine DX_seq ?_); refine rgx [3, 4, 5, 6, 7] ?_
    (repeat refine DX_seq ?_); refine rgx [3, 4, 5, 6, 7, 8] ?_
    (repeat refine DX_seq ?_); refine DX_block ?_
    (repeat refine DX_seq ?_); refine DX_loop (fun j _ st => ∃ i, i + j = 4 ∧ st = mk [(3, strD m), (4, .own 0 (4 * k + i) 3 1), (5, nD (lackP (digP m k ++ splitS x i) (4 * k + i))), (6, nD k), (7, nD (x / 4 ^ i)), (8, nD i)] [some (.row ((digP m k ++ splitS x i).map nD) 3 1)]) 4 ⟨_, WeakX.refl _, 0, by omega, ?_⟩ ?_
    · simp [splitS, nD, strD]
    rintro j2 _ _ ⟨i, hi, rfl⟩
    have hX := And.intro hnD (hml)
    (repeat refine DX_seq ?_); refine rgx [3, 4, 5, 6, 7, 8, 21] ?_
    (repeat refine DX_seq ?_); refine ifx ?_ ?_
    · intro hc; (try simp only [hcs, ne_eq] at hc)
      have hsl := splitS_len x i
      have hd : x / 4 ^ i ≤ x := Nat.div_le_self _ _
      have hsn := lackP_snoc (digP m k ++ splitS x i) (x / 4 ^ i % 4)
      rw [List.length_append, hl, hsl] at hsn
      have hlk := lackP_le (digP m k ++ splitS x i) (4 * k + i)
      have hx2 : x / 4 ^ (i + 1) = x / 4 ^ i / 4 := by rw [Nat.pow_succ, Nat.div_div_eq_div_mul]
      have hs2 : splitS x (i + 1) = splitS x i ++ [x / 4 ^ i % 4] := rfl
      generalize hy : x / 4 ^ i = y at *
      generalize hz : lackP (digP m k ++ splitS x i) (4 * k + i) = z at *
      have e3 : (3 : Int) - (y : Int) % 4 = ((3 - y % 4 : Nat) : Int) := by omega
      (repeat refine DX_seq ?_); refine DX_skip ?_
      (repeat refine DX_seq ?_); refine DX_block ?_
      have hX := And.intro hnD (And.intro hml (And.intro hl (hsl)))
      (repeat refine DX_seq ?_); refine rgx [3, 4, 5, 6, 7, 8] ?_
      (repeat refine DX_seq ?_); refine rgx [3, 4, 5, 6, 7, 8] ?_
      (repeat refine DX_seq ?_); refine rgx [3, 4, 5, 6, 7, 8] ?_
      (repeat refine DX_seq ?_); refine rgx [3, 4, 5, 6, 7, 8] ?_
      refine ⟨_, j2 - 1, WeakX.refl _, by omega, i + 1, by omega, ?_⟩
      rw [hs2, ← List.append_assoc, ← Nat.add_assoc, hsn, hx2]
      simp [nD, strD, hsl, e3]
    · intro hc; (try simp only [hcs, ne_eq] at hc)
      obtain rfl : i = 4 := by omega
      (repeat refine DX_seq ?_); refine DX_exit ?_
      (repeat refine DX_seq ?_); refine rgx [3, 4, 5, 6] ?_
      refine ⟨_, j - 1, WeakX.refl _, by omega, k + 1, by omega, ?_⟩
      subst hx
      simp [nD, strD, digP, Nat.mul_add]
  · intro hc; (try simp only [hcs, ne_eq] at hc)
    obtain rfl : k = 16 := by omega
    have hl := digP_len m 16
    have hll := lackP_le (digP m 16) 64
    generalize hL : lackP (digP m 16) 64 = L at *
    have hL' : lackP (digP m 16) (4 * 16) = L := hL
    (repeat refine DX_seq ?_); refine DX_exit ?_
    have hX := And.intro hnD (And.intro hml (hL'))
    (repeat refine DX_seq ?_); refine rgx [4, 5, 9] ?_
    generalize digP m 16 = dl at hl ⊢
    (repeat refine DX_seq ?_); refine DX_block ?_
    (repeat refine DX_seq ?_); refine DX_loop (fun j _ st => ∃ i, i + j = 4 ∧ st = mk [(4, .own 0 (64 + i) 3 1), (5, nD (L / 4 ^ i)), (9, nD i)] [some (.row ((dl ++ splitS L i).map nD) 3 1)]) 4 ⟨_, WeakX.refl _, 0, by omega, ?_⟩ ?_
    · simp [splitS, nD]
    rintro j2 _ _ ⟨i, hi, rfl⟩
    have hX := And.intro hnD (hml)
    (repeat refine DX_seq ?_); refine rgx [4, 5, 9, 37] ?_
    (repeat refine DX_seq ?_); refine ifx ?_ ?_
    · intro hc; (try simp only [hcs, ne_eq] at hc)
      have hsl := splitS_len L i
      have hd : L / 4 ^ i ≤ L := Nat.div_le_self _ _
      have hx2 : L / 4 ^ (i + 1) = L / 4 ^ i / 4 := by rw [Nat.pow_succ, Nat.div_div_eq_div_mul]
      have hs2 : splitS L (i + 1) = splitS L i ++ [L / 4 ^ i % 4] := rfl
      generalize hy : L / 4 ^ i = y at *
      (repeat refine DX_seq ?_); refine DX_skip ?_
      (repeat refine DX_seq ?_); refine DX_block ?_
      have hX := And.intro hnD (And.intro hml (And.intro hl (hsl)))
      (repeat refine DX_seq ?_); refine rgx [4, 5, 9] ?_
      (repeat refine DX_seq ?_); refine rgx [4, 5, 9] ?_
      (repeat refine DX_seq ?_); refine rgx [4, 5, 9] ?_
      refine ⟨_, j2 - 1, WeakX.refl _, by omega, i + 1, by omega, ?_⟩
      rw [hs2, ← List.append_assoc, hx2]
      simp [nD, hsl, Nat.add_assoc]
    · intro hc; (try simp only [hcs, ne_eq] at hc)
      obtain rfl : i = 4 := by omega
      have hsl := splitS_len L 4
      (repeat refine DX_seq ?_); refine DX_exit ?_
      (repeat refine DX_seq ?_); refine rgx [2] ?_
      (repeat refine DX_seq ?_); refine DX_ret ?_; refine retx ?_; (try dsimp only [outV, unlist])
      refine Fin_elems rfl (by simp only [elems, List.getElem?_cons_zero]; exact rfl) (by simp [hl, hsl]) ?_ (fun _ => rfl)
      rw [List.take_of_length_le (by simp [hl, hsl])]
end Go.Proofs.YtedioenakmgdiaaDoor

namespace Go.Proofs.YtedioenakmgdiaaDoor
set_option linter.unusedSimpArgs false
set_option linter.unusedVariables false
set_option maxRecDepth 10000
open Go.RowKit
/-- pieces of a signature, led on to the ends of their chains -/
def recN (sig : List UInt8) (d : Nat → Nat) : Nat → List UInt8
  | 0 => []
  | k + 1 => recN sig d k ++ onS ((sig.drop (16 * k)).take 16) (3 - d k)
theorem piece_len {sig : List UInt8} {k : Nat} (h : 16 * k + 16 ≤ sig.length) : ((sig.drop (16 * k)).take 16).length = 16 := by simp; omega
theorem recN_len (sig : List UInt8) (d : Nat → Nat) (k : Nat) (h : 16 * k ≤ sig.length) : (recN sig d k).length = 16 * k := by
  induction k with
  | zero => rfl
  | succ k ih => simp only [recN, List.length_append]; rw [ih (by omega), onS_len _ _ (piece_len (by omega))]; omega
def recS (text sig : List UInt8) : List UInt8 := sumP (4 :: recN sig (digA text) 68)
/-- what is recovered, and whether -/
def recD (text sig : List UInt8) : D := .tup (.cons (if sig.length = 1088 then hashD (recS text sig) else .arr .u8 32 (fun _ => 0)) (.cons (iD (if sig.length = 1088 then 0 else 2)) .nil))
set_option maxHeartbeats 8000000 in
theorem recover_c (text sig : List UInt8) (ht : text.length ≤ 1000000) : PC (envOf Tryd.prog) 73 [strD text, strD sig] (recD text sig) := by
  have hnD : ∀ d : Nat, nD d = .v (.int .i64 (d : Int)) := fun _ => rfl
  have hdl := digS_len text
  unfold recD
  have hX := and_true; refine PC_atX Tryd.func73 rfl Tryd.ntmps73 Tryd.results73 rfl (by simp only [argsL, Nat.reduceAdd, u32D, u8D, iD, bD, strD, u32_xor, u32_or, u32_and, u32_add, u32_not, u32_shr, u32_shl, u8_u32, u32_u8]; exact rfl) ?_; intro w0 A
  (repeat refine DX_seq ?_); refine rgx [0, 1, 4] ?_
  (repeat refine DX_seq ?_); refine rgx [0, 1, 4, 11] ?_
  (repeat refine DX_seq ?_); refine ifx ?_ ?_
  · intro hc; (try simp only [hcs, ne_eq] at hc)
    rw [if_neg (by omega), if_neg (by omega)]
    (repeat refine DX_seq ?_); refine rgx [4, 5] ?_
    (repeat refine DX_seq ?_); refine DX_ret ?_; refine retx ?_; (try dsimp only [outV, unlist])
    exact Fin_pure rfl
  · intro hc; (try simp only [hcs, ne_eq] at hc)
    have hsl : sig.length = 1088 := by omega
    rw [if_pos hsl, if_pos hsl]
    (repeat refine DX_seq ?_); refine DX_skip ?_
    (repeat refine DX_seq ?_); refine DX_reg [0, 1, 4, 6] ?_; intro w0 A S0 f0; refine ex rfl (dobsl1 rfl rfl rfl rfl rfl) ?_; (repeat ((with_reducible show DR _ _ _ (_ :: _) _); first | (refine cx _ (envG _ _ _ _ _ _) rfl rfl rfl rfl rfl ?_ (hc := by first | fail))  | (refine sx ?_))); refine DR_nil ?_; refine kl1 ?_
    have hX := And.intro hdl (and_true)
    have hK := And.intro (digits_c text ht) trivial; (repeat refine DX_seq ?_); refine rgx [1, 4, 6, 16, 17, 18] ?_
    (repeat refine DX_seq ?_); refine DX_block ?_
    (repeat refine DX_seq ?_); refine DX_loop (fun m _ st => ∃ k, k + m = 68 ∧ st = mk [(1, strD (sig.drop (16 * k))), (4, .ptr 0 0), (6, .own 1 (1 + 16 * k) 5 1), (16, .sl (digS text) 0 nD), (17, nD 68), (18, nD k)] [some (.one (.arr .u8 32 fun _ => 0)), some (.row ((4 :: recN sig (digA text) k).map byteD) 5 1)]) 68 ⟨_, WeakX.refl _, 0, by omega, rfl⟩ ?_
    rintro m _ _ ⟨k, hk, rfl⟩
    have hX := And.intro hdl (hnD)
    (repeat refine DX_seq ?_); refine rgx [1, 4, 6, 16, 17, 18, 19] ?_
    (repeat refine DX_seq ?_); refine ifx ?_ ?_
    · intro hc; (try simp only [hcs, ne_eq] at hc)
      have hl := recN_len sig (digA text) k (by omega)
      have hda := digA_le text k
      have hpl := piece_len (sig := sig) (k := k) (by omega)
      have hol := onS_len ((sig.drop (16 * k)).take 16) (3 - digA text k) hpl
      have hde : (digS text).getD k 0 = digA text k := rfl
      have hdrl : (sig.drop (16 * k)).length = 1088 - 16 * k := by rw [List.length_drop, hsl]
      have e3 : (3 : Int) - (digA text k : Int) = ((3 - digA text k : Nat) : Int) := by omega
      (repeat refine DX_seq ?_); refine DX_skip ?_
      (repeat refine DX_seq ?_); refine DX_block ?_
      have hX := And.intro hdl (And.intro hde (hnD))
      (repeat refine DX_seq ?_); refine rgx [1, 4, 6, 8, 16, 17, 18] ?_
      have hX := And.intro hdl (And.intro hl (And.intro hol (And.intro hnD (And.intro e3 (hdrl)))))
      have hK := And.intro (on_c ((sig.drop (16 * k)).take 16) (3 - digA text k) (by omega) (by omega)) trivial; (repeat refine DX_seq ?_); refine rgx [1, 4, 6, 16, 17, 18] ?_
      (repeat refine DX_seq ?_); refine rgx [1, 4, 6, 16, 17, 18] ?_
      (repeat refine DX_seq ?_); refine rgx [1, 4, 6, 16, 17, 18] ?_
      refine ⟨_, m - 1, WeakX.refl _, by omega, k + 1, by omega, ?_⟩
      simp [nD, strD, recN, Nat.mul_add, Nat.add_assoc, hol, byteD_four]
    · intro hc; (try simp only [hcs, ne_eq] at hc)
      obtain rfl : k = 68 := by omega
      have hl := recN_len sig (digA text) 68 (by omega)
      (repeat refine DX_seq ?_); refine DX_exit ?_
      have hX := And.intro hl (and_true)
      have hK := And.intro (sum_c (4 :: recN sig (digA text) 68) (by rw [List.length_cons, hl]; omega)) trivial; (repeat refine DX_seq ?_); refine rgx [4, 5] ?_
      (repeat refine DX_seq ?_); refine DX_ret ?_; refine retx ?_; (try dsimp only [outV, unlist])
      exact Fin_pure rfl
end Go.Proofs.YtedioenakmgdiaaDoor

namespace Go.Proofs.YtedioenakmgdiaaDoor
set_option linter.unusedSimpArgs false
set_option linter.unusedVariables false
set_option maxRecDepth 10000
open Go.RowKit
set_option maxHeartbeats 8000000 in
theorem refrecover_c (text sig : List UInt8) (ht : text.length ≤ 1000000) : PC (envOf Tryd.prog) 75 [strD text, strD sig] (recD text sig) := by
  have hnD : ∀ d : Nat, nD d = .v (.int .i64 (d : Int)) := fun _ => rfl
  have hdl := digS_len text
  unfold recD
  have hX := and_true; refine PC_atX Tryd.func75 rfl Tryd.ntmps75 Tryd.results75 rfl (by simp only [argsL, Nat.reduceAdd, u32D, u8D, iD, bD, strD, u32_xor, u32_or, u32_and, u32_add, u32_not, u32_shr, u32_shl, u8_u32, u32_u8]; exact rfl) ?_; intro w0 A
  (repeat refine DX_seq ?_); refine rgx [0, 1, 4] ?_
  (repeat refine DX_seq ?_); refine rgx [0, 1, 4, 11] ?_
  (repeat refine DX_seq ?_); refine ifx ?_ ?_
  · intro hc; (try simp only [hcs, ne_eq] at hc)
    rw [if_neg (by omega), if_neg (by omega)]
    (repeat refine DX_seq ?_); refine rgx [4, 5] ?_
    (repeat refine DX_seq ?_); refine DX_ret ?_; refine retx ?_; (try dsimp only [outV, unlist])
    exact Fin_pure rfl
  · intro hc; (try simp only [hcs, ne_eq] at hc)
    have hsl : sig.length = 1088 := by omega
    rw [if_pos hsl, if_pos hsl]
    (repeat refine DX_seq ?_); refine DX_skip ?_
    (repeat refine DX_seq ?_); refine rgx [0, 1, 4, 6] ?_
    have hX := And.intro hdl (and_true)
    have hK := And.intro (refdigits_c text ht) trivial; (repeat refine DX_seq ?_); refine rgx [1, 4, 6, 14, 15, 16] ?_
    (repeat refine DX_seq ?_); refine DX_block ?_
    (repeat refine DX_seq ?_); refine DX_loop (fun m _ st => ∃ k, k + m = 68 ∧ st = mk [(1, strD sig), (4, .ptr 0 0), (6, strD (4 :: recN sig (digA text) k)), (14, .sl (digS text) 0 nD), (15, nD 68), (16, nD k)] [some (.one (.arr .u8 32 fun _ => 0))]) 68 ⟨_, WeakX.refl _, 0, by omega, rfl⟩ ?_
    rintro m _ _ ⟨k, hk, rfl⟩
    have hX := And.intro hdl (hnD)
    (repeat refine DX_seq ?_); refine rgx [1, 4, 6, 14, 15, 16, 17] ?_
    (repeat refine DX_seq ?_); refine ifx ?_ ?_
    · intro hc; (try simp only [hcs, ne_eq] at hc)
      have hl := recN_len sig (digA text) k (by omega)
      have hda := digA_le text k
      have hpl := piece_len (sig := sig) (k := k) (by omega)
      have hol := onS_len ((sig.drop (16 * k)).take 16) (3 - digA text k) hpl
      have hde : (digS text).getD k 0 = digA text k := rfl
      have e3 : (3 : Int) - (digA text k : Int) = ((3 - digA text k : Nat) : Int) := by omega
      have e4 : (16 : Int) * (k : Int) = ((16 * k : Nat) : Int) := by omega
      have e5 : (16 : Int) * ((k : Int) + 1) = ((16 * k + 16 : Nat) : Int) := by omega
      have e6 : (sig.take (16 * k + 16)).drop (16 * k) = (sig.drop (16 * k)).take 16 := by rw [List.drop_take, show 16 * k + 16 - 16 * k = 16 by omega]
      (repeat refine DX_seq ?_); refine DX_skip ?_
      (repeat refine DX_seq ?_); refine DX_block ?_
      have hX := And.intro hdl (And.intro hde (hnD))
      (repeat refine DX_seq ?_); refine rgx [1, 4, 6, 7, 8, 14, 15, 16] ?_
      have hX := And.intro hdl (And.intro hl (And.intro hol (And.intro hnD (And.intro e3 (And.intro e4 (And.intro e5 (And.intro e6 (hsl))))))))
      have hK := And.intro (refon_c ((sig.drop (16 * k)).take 16) (3 - digA text k) (by omega) (by omega)) trivial; (repeat refine DX_seq ?_); refine rgx [1, 4, 6, 14, 15, 16] ?_
      (repeat refine DX_seq ?_); refine rgx [1, 4, 6, 14, 15, 16] ?_
      refine ⟨_, m - 1, WeakX.refl _, by omega, k + 1, by omega, ?_⟩
      simp [nD, strD, recN]
    · intro hc; (try simp only [hcs, ne_eq] at hc)
      obtain rfl : k = 68 := by omega
      have hl := recN_len sig (digA text) 68 (by omega)
      (repeat refine DX_seq ?_); refine DX_exit ?_
      have hX := And.intro hl (and_true)
      have hK := And.intro (refsumS_c (4 :: recN sig (digA text) 68) (by rw [List.length_cons, hl]; omega)) trivial; (repeat refine DX_seq ?_); refine rgx [4, 5] ?_
      (repeat refine DX_seq ?_); refine DX_ret ?_; refine retx ?_; (try dsimp only [outV, unlist])
      exact Fin_pure rfl
end Go.Proofs.YtedioenakmgdiaaDoor
