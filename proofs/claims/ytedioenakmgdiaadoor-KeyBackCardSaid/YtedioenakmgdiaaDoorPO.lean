/- Chains' starts. Chains' starts, handed on one by one. Digits of a number. Digits of a text. A seed's sum, and its signatures. Signatures. The document's digits are a text's. The document's signatures; what is recovered from signatures. What the document recovers; lists compared. What signatures and digits are like: plain. -/
import Derived.Test.YtedioenakmgdiaaDoorPD
import Derived.Test.YtedioenakmgdiaaDoorPG
namespace Go.Proofs.YtedioenakmgdiaaDoor
set_option linter.unusedSimpArgs false
set_option linter.unusedVariables false
set_option maxRecDepth 10000
open Go.RowKit
def startS (seed : List UInt8) (j : Nat) : List UInt8 := midS (3 :: UInt8.ofNat j :: seed)
set_option maxHeartbeats 2000000 in
theorem refstart_c (seed : List UInt8) (j : Nat) (hs : seed.length ≤ 1000000) (hj : j < 256) : PC (envOf Tryd.prog) 98 [strD seed, iD (j : Int)] (strD (startS seed j)) := by
  have e1 : (j : Int) % 256 = (j : Int) := by omega
  have hX := and_true; refine PC_atX Tryd.func98 rfl Tryd.ntmps98 Tryd.results98 rfl (by simp only [argsL, Nat.reduceAdd, u32D, u8D, iD, bD, strD, u32_xor, u32_or, u32_and, u32_add, u32_not, u32_shr, u32_shl, u8_u32, u32_u8]; exact rfl) ?_; intro w0 A
  have e2 : ([byteOf (D.v (Value.int IntKind.u8 (j : Int)))] : List UInt8) = [UInt8.ofNat j] := by simp [byteOf]
  have hX := And.intro e1 (e2)
  have hK := And.intro (refmidS_c (3 :: UInt8.ofNat j :: seed) (by simp only [List.length_cons]; omega)) trivial; (repeat refine DX_seq ?_); refine rgx [0, 1] ?_
  (repeat refine DX_seq ?_); refine rgx [4] ?_
  (repeat refine DX_seq ?_); refine DX_ret ?_; refine retx ?_; (try dsimp only [outV, unlist])
  exact Fin_pure rfl
end Go.Proofs.YtedioenakmgdiaaDoor

namespace Go.Proofs.YtedioenakmgdiaaDoor
set_option linter.unusedSimpArgs false
set_option linter.unusedVariables false
set_option maxRecDepth 10000
open Go.RowKit
def startsI (seed : List UInt8) (k : Nat) : List (List D) := (List.range k).map fun (j : Nat) => [iD (j : Int), strD (startS seed j)]
theorem startsI_succ (seed : List UInt8) (k : Nat) : startsI seed k ++ [[iD (k : Int), strD (startS seed k)]] = startsI seed (k + 1) := by simp [startsI, List.range_succ]
theorem startsI_pre (seed : List UInt8) {k m : Nat} (h : k ≤ m) : startsI seed k <+: startsI seed m := by
  obtain ⟨d, rfl⟩ := Nat.exists_eq_add_of_le h
  refine ⟨(List.range d).map fun (j : Nat) => [iD ((k + j : Nat) : Int), strD (startS seed (k + j))], ?_⟩
  simp only [startsI, List.range_add, List.map_append, List.map_map]
  rfl
set_option maxHeartbeats 2000000 in
theorem starts_c (seed : List UInt8) : PC (envOf Tryd.prog) 102 [strD seed] (.fn 115 (listD [.ip (strD seed)])) := by
  have hX := and_true; refine PC_atX Tryd.func102 rfl Tryd.ntmps102 Tryd.results102 rfl (by simp only [argsL, Nat.reduceAdd, u32D, u8D, iD, bD, strD, u32_xor, u32_or, u32_and, u32_add, u32_not, u32_shr, u32_shl, u8_u32, u32_u8]; exact rfl) ?_; intro w0 A
  (repeat refine DX_seq ?_); refine rgx [1] ?_
  (repeat refine DX_seq ?_); refine rgx [2] ?_
  (repeat refine DX_seq ?_); refine DX_ret ?_; refine retx ?_; (try dsimp only [outV, unlist])
  exact Fin_frz rfl rfl rfl
theorem cons3 (a : List UInt8) (l : List UInt8) : ([3] : List UInt8) ++ a ++ l = 3 :: a ++ l := rfl
set_option maxHeartbeats 4000000 in
theorem startsG (seed : List UInt8) (hs : seed.length ≤ 1000000) : SeqX (envOf Tryd.prog) 115 (listD [.ip (strD seed)]) (startsI seed 68) := by
  have hX := and_true; refine SeqX_at Tryd.func115 rfl Tryd.ntmps115 Tryd.results115 rfl rfl rfl ?_; intro k; refine DX_args (by simp only [argsL, Nat.reduceAdd, u32D, u8D, iD, bD, strD, u32_xor, u32_or, u32_and, u32_add, u32_not, u32_shr, u32_shl, u8_u32, u32_u8]; exact rfl) ?_
  (repeat refine DX_seq ?_); refine rgx [0, 1, 4] ?_
  (repeat refine DX_seq ?_); refine DX_block ?_
  (repeat refine DX_seq ?_); refine DX_loop (fun m g st => ∃ j, j + m = 68 ∧ g = (startsI seed j, true) ∧ st = mk [(0, .v (.func (.yield k.l) #[] #[])), (1, .ip (strD seed)), (4, iD (j : Int))] []) 68 ⟨_, WeakX.refl _, 0, by omega, rfl, rfl⟩ ?_
  rintro m _ _ ⟨j, hj, rfl, rfl⟩
  (repeat refine DX_seq ?_); refine rgx [0, 1, 4, 5] ?_
  (repeat refine DX_seq ?_); refine ifx ?_ ?_
  · intro hc; (try simp only [hcs, ne_eq] at hc)
    have e1 : (j : Int) % 256 = (j : Int) := by omega
    have e2 : ([byteOf (D.v (Value.int IntKind.u8 (j : Int)))] : List UInt8) = [UInt8.ofNat j] := by simp [byteOf]
    (repeat refine DX_seq ?_); refine DX_skip ?_
    (repeat refine DX_seq ?_); refine DX_block ?_
    (repeat refine DX_seq ?_); refine rgx [0, 1, 3, 4] ?_
    have hX := And.intro e1 (e2)
    (repeat refine DX_seq ?_); refine DX_regL ?_; refine DL_split 10 ?_; intro w0 A S0 f0; simp only [List.take, List.drop]; (repeat ((with_reducible show DR _ _ _ (_ :: _) _); first | (refine cx _ (envG _ _ _ _ _ _) rfl rfl rfl rfl rfl ?_ (hc := by first | exact midS_c (3 :: UInt8.ofNat j :: seed) (by simp only [List.length_cons]; omega)))  | (refine sx ?_))); refine DR_nil ?_
    refine DL_yield rfl rfl (fun _ _ _ _ => rfl) (fun _ _ _ _ => by simp only [byteD, implies_true, setD, bslF, buildF, buildL, List.zip_cons_cons, List.zip_nil_right, List.zip_nil_left, pureD, rng0, rng1, rng2, rng3, rng4, rng5, rng6, rng7, rng8, List.getD_cons_zero, List.getD_cons_succ, Nat.reduceLeDiff, decide_true, decide_false, List.all_cons, List.all_nil, dqF, nilF, callQ, argsD, Op.operands, Call.operands, evD, cD, gip, upd, look, List.map, List.map_cons, List.map_nil, binF, binI, shI, binS, unF, wD, kLo, kHi, kMod, kBits, convF, loadF, fieldF, faddrF, indexF, iaddrF, lenF, lenD, sliceF, sliceF3, minF, sliceD, cutL, bndF, sub, nc, aggT, aggB, scB, tnth, elems, L_B, L_mk, List.getElem?_cons_zero, List.getElem?_cons_succ, reduceIte, reduceCtorEq, Option.isSome, List.toList_toArray, Nat.reduceAdd, Nat.reduceSub, Nat.reduceMul, Nat.reduceEqDiff, Nat.reduceLT, Nat.reduceBEq, mkF, mkG, Bool.and_true, Bool.true_and, Bool.and_false, Bool.false_and, beq_self_eq_true, mkC, Int.reduceToNat, Int.toNat_natCast, Int.reduceAdd, Int.reduceSub, Int.reduceMul, Nat.zero_add, Nat.add_zero, Nat.mul_one, and_true, true_and, Option.getD_some, Option.getD_none, ne_eq, not_true_eq_false, not_false_eq_true, decide_not, Bool.not_true, Bool.not_false, Int.reduceLT, Int.reduceLE, Int.reduceEq, Int.reduceNe, Int.reduceGT, Int.reduceGE, gt_iff_lt, ge_iff_le, Nat.reduceLT, Nat.reduceLeDiff, u32D, u8D, iD, bD, strD, u32_xor, u32_or, u32_and, u32_add, u32_not, u32_shr, u32_shl, u8_u32, u32_u8, Array.toList_append, List.cons_append, List.nil_append, hX]; exact rfl) rfl ?_ ?_ ?_
    · show startsI seed j ++ [[iD (j : Int), strD (startS seed j)]] <+: _
      rw [startsI_succ]; exact startsI_pre seed (by omega)
    · refine DL_split 1 ?_; intro w0 A S0 f0; simp only [List.take, List.drop]; (repeat ((with_reducible show DR _ _ _ (_ :: _) _); first | (refine cx _ (envG _ _ _ _ _ _) rfl rfl rfl rfl rfl ?_ (hc := by first | exact midS_c (3 :: UInt8.ofNat j :: seed) (by simp only [List.length_cons]; omega)))  | (refine sx ?_))); refine DR_nil ?_; refine DL_nil [0, 1, 4, 18] (kl1 ?_)
      (repeat refine DX_seq ?_); refine iffx ?_
      (repeat refine DX_seq ?_); refine DX_skip ?_
      have hK := And.intro (midS_c (3 :: UInt8.ofNat j :: seed) (by simp only [List.length_cons]; omega)) trivial; (repeat refine DX_seq ?_); refine rgx [0, 1, 4] ?_
      exact ⟨_, m - 1, WeakX.refl _, by omega, j + 1, by omega, congrArg (·, true) (startsI_succ seed j), by simp [iD, strD]⟩
    · refine DL_split 1 ?_; intro w0 A S0 f0; simp only [List.take, List.drop]; (repeat ((with_reducible show DR _ _ _ (_ :: _) _); first | (refine cx _ (envG _ _ _ _ _ _) rfl rfl rfl rfl rfl ?_ (hc := by first | exact midS_c (3 :: UInt8.ofNat j :: seed) (by simp only [List.length_cons]; omega)))  | (refine sx ?_))); refine DR_nil ?_; refine DL_nil [0, 1, 4, 18] (kl1 ?_)
      (repeat refine DX_seq ?_); refine iftx ?_
      refine DX_ret ?_
      exact ⟨.inr rfl, fun h => by cases h⟩
  · intro hc; (try simp only [hcs, ne_eq] at hc)
    obtain rfl : j = 68 := by omega
    (repeat refine DX_seq ?_); refine DX_exit ?_
    exact ⟨.inl rfl, fun _ => rfl⟩
end Go.Proofs.YtedioenakmgdiaaDoor

namespace Go.Proofs.YtedioenakmgdiaaDoor
set_option linter.unusedSimpArgs false
set_option linter.unusedVariables false
set_option maxRecDepth 10000
open Go.RowKit
def nD (d : Nat) : D := .v (.int .i64 (d : Int))
def splitS (n : Nat) : Nat → List Nat
  | 0 => []
  | k + 1 => splitS n k ++ [n / 4 ^ k % 4]
theorem splitS_len (n k : Nat) : (splitS n k).length = k := by
  induction k with
  | zero => rfl
  | succ k ih => simp [splitS, ih]
theorem and3 (x : Nat) : ((x &&& 3 : Nat) : Int) = ((x % 4 : Nat) : Int) := by
  have : x &&& 3 = x % 2 ^ 2 := Nat.and_two_pow_sub_one_eq_mod x 2
  rw [this]
theorem shr2 (x : Nat) : (x : Int) / (2 : Int) ^ 2 = ((x / 4 : Nat) : Int) := by omega
set_option maxHeartbeats 2000000 in
theorem split_c (n many : Nat) (hn : n ≤ 1000000) (hm : many ≤ 1000000) : PC (envOf Tryd.prog) 114 [nD n, nD many] (.sl (splitS n many) 0 nD) := by
  have hnD : ∀ d : Nat, nD d = .v (.int .i64 (d : Int)) := fun _ => rfl
  have hX := and_true; refine PC_atX Tryd.func114 rfl Tryd.ntmps114 Tryd.results114 rfl (by simp only [argsL, Nat.reduceAdd, u32D, u8D, iD, bD, strD, u32_xor, u32_or, u32_and, u32_add, u32_not, u32_shr, u32_shl, u8_u32, u32_u8]; exact rfl) ?_; intro w0 A
  have hX := And.intro hnD (and_true)
  (repeat refine DX_seq ?_); refine rgx [0, 1] ?_
  (repeat refine DX_seq ?_); refine rgx [0, 1, 5] ?_
  (repeat refine DX_seq ?_); refine rgx [0, 5, 6, 7] ?_
  (repeat refine DX_seq ?_); refine DX_block ?_
  refine DX_weak (fun _ _ _ _ => Weak.nil_own 5 3 1 rfl) ?_
  refine DX_loop (fun m _ st => ∃ k, k + m = many ∧ st = mk [(0, nD (n / 4 ^ k)), (5, .own 0 k 3 1), (6, nD many), (7, nD k)] [some (.row ((splitS n k).map nD) 3 1)]) many ⟨_, WeakX.pick [0, 5, 6, 7], 0, by omega, ?_⟩ ?_
  · rw [Nat.pow_zero, Nat.div_one]; rfl
  rintro m _ _ ⟨k, hk, rfl⟩
  (repeat refine DX_seq ?_); refine rgx [0, 5, 6, 7, 8] ?_
  (repeat refine DX_seq ?_); refine ifx ?_ ?_
  · intro hc
    have hkn : k < many := by have := of_decide_eq_true hc; omega
    have hl := splitS_len n k
    have hd : n / 4 ^ k ≤ n := Nat.div_le_self _ _
    generalize hx : n / 4 ^ k = x at hd
    have e1 := and3 x
    have e2 := shr2 x
    (repeat refine DX_seq ?_); refine DX_skip ?_
    (repeat refine DX_seq ?_); refine DX_block ?_
    have hX := And.intro hnD (And.intro hl (And.intro e1 (e2)))
    (repeat refine DX_seq ?_); refine rgx [0, 5, 6, 7] ?_
    (repeat refine DX_seq ?_); refine rgx [0, 5, 6, 7] ?_
    (repeat refine DX_seq ?_); refine rgx [0, 5, 6, 7] ?_
    refine ⟨_, m - 1, WeakX.refl _, by omega, k + 1, by omega, ?_⟩
    subst hx
    simp [nD, splitS, Nat.pow_succ, Nat.div_div_eq_div_mul]
  · intro hc
    have hkn : k = many := by have := of_decide_eq_false hc; omega
    subst hkn
    refine DX_exit ?_
    (repeat refine DX_seq ?_); refine rgx [4] ?_
    (repeat refine DX_seq ?_); refine DX_ret ?_; refine retx ?_; (try dsimp only [outV, unlist])
    refine Fin_elems rfl (by simp only [elems, List.getElem?_cons_zero]; exact rfl) (by simp [splitS_len]) ?_ (fun _ => rfl)
    rw [List.take_of_length_le (by simp [splitS_len])]
/-- digits of bytes -/
def digP (m : List UInt8) : Nat → List Nat
  | 0 => []
  | k + 1 => digP m k ++ splitS (m.getD k 0).toNat 4
def lackP (l : List Nat) : Nat → Nat
  | 0 => 0
  | k + 1 => lackP l k + (3 - l.getD k 0)
def digS (text : List UInt8) : List Nat := digP (midS text) 16 ++ splitS (lackP (digP (midS text) 16) 64) 4
theorem digP_len (m : List UInt8) (k : Nat) : (digP m k).length = 4 * k := by
  induction k with
  | zero => rfl
  | succ k ih => simp [digP, ih, splitS_len]; omega
theorem splitS_lt (n k : Nat) : ∀ d ∈ splitS n k, d ≤ 3 := by
  induction k with
  | zero => intro d hd; cases hd
  | succ k ih =>
    intro d hd
    simp only [splitS, List.mem_append, List.mem_cons, List.not_mem_nil, or_false] at hd
    rcases hd with h | h
    · exact ih d h
    · omega
theorem digP_lt (m : List UInt8) (k : Nat) : ∀ d ∈ digP m k, d ≤ 3 := by
  induction k with
  | zero => intro d hd; cases hd
  | succ k ih =>
    intro d hd
    simp only [digP, List.mem_append] at hd
    rcases hd with h | h
    · exact ih d h
    · exact splitS_lt _ _ d h
theorem getD_le {l : List Nat} {b : Nat} (h : ∀ d ∈ l, d ≤ b) (k : Nat) : l.getD k 0 ≤ b := by
  rw [List.getD_eq_getElem?_getD]
  cases hk : l[k]? with
  | none => simp
  | some d => simpa using h d (List.mem_of_getElem? hk)
theorem lackP_le (l : List Nat) (k : Nat) : lackP l k ≤ 3 * k := by
  induction k with
  | zero => simp [lackP]
  | succ k ih => unfold lackP; omega
theorem digS_len (text : List UInt8) : (digS text).length = 68 := by simp [digS, digP_len, splitS_len]
theorem digS_lt (text : List UInt8) : ∀ d ∈ digS text, d ≤ 3 := by
  intro d hd
  simp only [digS, List.mem_append] at hd
  rcases hd with h | h
  · exact digP_lt _ _ d h
  · exact splitS_lt _ _ d h
end Go.Proofs.YtedioenakmgdiaaDoor

namespace Go.Proofs.YtedioenakmgdiaaDoor
set_option linter.unusedSimpArgs false
set_option linter.unusedVariables false
set_option maxRecDepth 10000
open Go.RowKit
set_option maxHeartbeats 4000000 in
theorem digits_c (text : List UInt8) (ht : text.length ≤ 1000000) : PC (envOf Tryd.prog) 100 [strD text] (.sl (digS text) 0 nD) := by
  have hnD : ∀ d : Nat, nD d = .v (.int .i64 (d : Int)) := fun _ => rfl
  have hml := midS_len text
  unfold digS
  have hX := and_true; refine PC_atX Tryd.func100 rfl Tryd.ntmps100 Tryd.results100 rfl (by simp only [argsL, Nat.reduceAdd, u32D, u8D, iD, bD, strD, u32_xor, u32_or, u32_and, u32_add, u32_not, u32_shr, u32_shl, u8_u32, u32_u8]; exact rfl) ?_; intro w0 A
  have hX := And.intro hnD (hml)
  have hK := And.intro (midS_c text (by omega)) trivial; (repeat refine DX_seq ?_); refine rgx [0] ?_
  (repeat refine DX_seq ?_); refine rgx [0, 3] ?_
  (repeat refine DX_seq ?_); refine rgx [3, 4] ?_
  generalize midS text = m at hml ⊢
  have hX := And.intro hnD (hml)
  (repeat refine DX_seq ?_); refine rgx [3, 4, 12, 13] ?_
  (repeat refine DX_seq ?_); refine DX_block ?_
  refine DX_weak (fun _ _ _ _ => Weak.nil_own 3 3 1 rfl) ?_
  refine DX_loop (fun j _ st => ∃ k, k + j = 16 ∧ st = mk [(3, .own 0 (4 * k) 3 1), (4, strD m), (12, nD 16), (13, nD k)] [some (.row ((digP m k).map nD) 3 1)]) 16 ⟨_, WeakX.pick [3, 4, 12, 13], 0, by omega, ?_⟩ ?_
  · rfl
  rintro j _ _ ⟨k, hk, rfl⟩
  (repeat refine DX_seq ?_); refine rgx [3, 4, 12, 13, 14] ?_
  (repeat refine DX_seq ?_); refine ifx ?_ ?_
  · intro hc
    have hkn : k < 16 := by have := of_decide_eq_true hc; omega
    have hl := digP_len m k
    generalize hx : (m.getD k 0).toNat = x
    have hxl : x < 256 := by rw [← hx]; exact UInt8.toNat_lt _
    (repeat refine DX_seq ?_); refine DX_skip ?_
    (repeat refine DX_seq ?_); refine DX_block ?_
    have h4 := splitS_len x 4
    have hX := And.intro hnD (And.intro hl (And.intro hx (And.intro hml (h4))))
    have hK := And.intro (split_c x 4 (by omega) (by omega)) trivial; (repeat refine DX_seq ?_); refine rgx [3, 4, 5, 12, 13] ?_
    (repeat refine DX_seq ?_); refine rgx [3, 4, 12, 13] ?_
    (repeat refine DX_seq ?_); refine rgx [3, 4, 12, 13] ?_
    refine ⟨_, j - 1, WeakX.refl _, by omega, k + 1, by omega, ?_⟩
    subst hx
    simp [nD, digP, Nat.mul_add, strD, splitS_len]
  · intro hc
    have hkn : k = 16 := by have := of_decide_eq_false hc; omega
    subst hkn
    refine DX_exit ?_
    have hl := digP_len m 16
    have hlt := digP_lt m 16
    generalize digP m 16 = l at hl hlt ⊢
    have hX := And.intro hnD (hl)
    (repeat refine DX_seq ?_); refine rgx [3, 6] ?_
    (repeat refine DX_seq ?_); refine rgx [3, 6, 24, 25, 26] ?_
    clear hc
    (repeat refine DX_seq ?_); refine DX_block ?_
    refine DX_loop (fun j _ st => ∃ k, k + j = 64 ∧ st = mk [(3, .own 0 64 3 1), (6, nD (lackP l k)), (24, .own 0 64 3 1), (25, nD 64), (26, nD k)] [some (.row (l.map nD) 3 1)]) 64 ⟨_, WeakX.refl _, 0, by omega, rfl⟩ ?_
    clear hk j
    rintro j _ _ ⟨k, hk, rfl⟩
    (repeat refine DX_seq ?_); refine rgx [3, 6, 24, 25, 26, 27] ?_
    (repeat refine DX_seq ?_); refine ifx ?_ ?_
    · intro hc
      have hkn : k < 64 := by have := of_decide_eq_true hc; omega
      (repeat refine DX_seq ?_); refine DX_skip ?_
      (repeat refine DX_seq ?_); refine DX_block ?_
      have hdl := getD_le hlt k
      have hll := lackP_le l k
      generalize hx : l.getD k 0 = x at hdl
      have hget : (l.map nD).getD k .dead = .v (.int .i64 (x : Int)) := by
        have hk' : k < l.length := by omega
        rw [← hx]
        simp [List.getD_eq_getElem?_getD, hk', nD]
      have e3 : (3 : Int) - (x : Int) = ((3 - x : Nat) : Int) := by omega
      have hX := And.intro hnD (And.intro hl (And.intro hget (And.intro Nat.div_one (And.intro Nat.mod_one (e3)))))
      (repeat refine DX_seq ?_); refine rgx [3, 6, 8, 24, 25, 26] ?_
      (repeat refine DX_seq ?_); refine rgx [3, 6, 24, 25, 26] ?_
      (repeat refine DX_seq ?_); refine rgx [3, 6, 24, 25, 26] ?_
      refine ⟨_, j - 1, WeakX.refl _, by omega, k + 1, by omega, ?_⟩
      subst hx
      simp [nD, lackP]
    · intro hc
      have hkn : k = 64 := by have := of_decide_eq_false hc; omega
      subst hkn
      have hll := lackP_le l 64
      have h4 := splitS_len (lackP l 64) 4
      refine DX_exit ?_
      have hX := And.intro hnD (And.intro hl (h4))
      have hK := And.intro (split_c (lackP l 64) 4 (by omega) (by omega)) trivial; (repeat refine DX_seq ?_); refine rgx [2] ?_
      (repeat refine DX_seq ?_); refine DX_ret ?_; refine retx ?_; (try dsimp only [outV, unlist])
      refine Fin_elems rfl (by simp only [elems, List.getElem?_cons_zero]; exact rfl) (by simp [hl, h4]) ?_ (fun _ => rfl)
      rw [List.take_of_length_le (by simp [hl, h4])]
      simp
end Go.Proofs.YtedioenakmgdiaaDoor

namespace Go.Proofs.YtedioenakmgdiaaDoor
set_option linter.unusedSimpArgs false
set_option linter.unusedVariables false
set_option maxRecDepth 10000
open Go.RowKit
/-- the pieces of a signature, one behind the other -/
def sigN (seed : List UInt8) (d : Nat → Nat) : Nat → List UInt8
  | 0 => []
  | k + 1 => sigN seed d k ++ onS (startS seed k) (d k)
theorem startS_len (seed : List UInt8) (j : Nat) : (startS seed j).length = 16 := midS_len _
theorem sigN_len (seed : List UInt8) (d : Nat → Nat) (k : Nat) : (sigN seed d k).length = 16 * k := by
  induction k with
  | zero => rfl
  | succ k ih => simp [sigN, ih, onS_len _ _ (startS_len _ _)]; omega
def publicS (seed : List UInt8) : List UInt8 := sumP (4 :: sigN seed (fun _ => 3) 68)
theorem startsI_len (seed : List UInt8) (k : Nat) : (startsI seed k).length = k := by simp [startsI]
/-- where a round stands -/
theorem startsI_at {seed : List UInt8} {pre : List (List D)} {x : List D} {m : Nat} (h : pre ++ [x] <+: startsI seed m) : pre.length < m ∧ x = [iD (pre.length : Int), strD (startS seed pre.length)] := by
  have hl := h.length_le
  rw [startsI_len] at hl
  simp at hl
  refine ⟨by omega, ?_⟩
  have h1 := h.getElem (i := pre.length) (by simp)
  rw [List.getElem_append_right (by omega)] at h1
  simp only [Nat.sub_self, List.getElem_singleton] at h1
  rw [h1]
  simp [startsI]
theorem byteD_at (l : List UInt8) : l.map byteD = l.map byteD := rfl
theorem byteD_four : byteD 4 = .v (.int .u8 4) := rfl
theorem map1 (l : List UInt8) (k : List UInt8) : l.map byteD ++ k.map byteD = (l ++ k).map byteD := by simp
set_option maxHeartbeats 4000000 in
theorem public_c (seed : List UInt8) (hs : seed.length ≤ 1000000) : PC (envOf Tryd.prog) 76 [strD seed] (hashD (publicS seed)) := by
  have hX := and_true; refine PC_atX Tryd.func76 rfl Tryd.ntmps76 Tryd.results76 rfl (by simp only [argsL, Nat.reduceAdd, u32D, u8D, iD, bD, strD, u32_xor, u32_or, u32_and, u32_add, u32_not, u32_shr, u32_shl, u8_u32, u32_u8]; exact rfl) ?_; intro w0 A
  (repeat refine DX_seq ?_); refine rgx [0, 2] ?_
  (repeat refine DX_seq ?_); refine DX_reg [0, 2, 3] ?_; intro w0 A S0 f0; refine ex rfl (dobsl1 rfl rfl rfl rfl rfl) ?_; (repeat ((with_reducible show DR _ _ _ (_ :: _) _); first | (refine cx _ (envG _ _ _ _ _ _) rfl rfl rfl rfl rfl ?_ (hc := by first | fail))  | (refine sx ?_))); refine DR_nil ?_; refine kl1 ?_
  have hK := And.intro (starts_c seed) trivial; (repeat refine DX_seq ?_); refine rgx [2, 3, 9] ?_
  (repeat refine DX_seq ?_); refine DX_block ?_
  refine DX_rangeX (items := startsI seed 68) [0, 2] [2, 3] (fun pre => [some (.one (.arr .u8 32 fun _ => 0)), some (.row ((4 :: sigN seed (fun _ => 3) pre.length).map byteD) 5 1), some (.one (.own 1 (1 + 16 * pre.length) 5 1))]) (fun _ _ => False)
    (startsG seed hs) (by kernel_rfl) rfl (fun _ _ _ _ => rfl) rfl rfl rfl rfl rfl (fun x hx => ?_) (fun M L pre x hx => ?_) ?_ (fun _ _ h => h.elim)
  · simp only [startsI, List.mem_map] at hx; obtain ⟨j, _, rfl⟩ := hx; rfl
  · obtain ⟨hj, rfl⟩ := startsI_at hx
    have hl := sigN_len seed (fun _ => 3) pre.length
    have hol := onS_len (startS seed pre.length) 3 (startS_len _ _)
    refine DX_drop1 [3, 11] ?_
    (repeat refine DX_seq ?_); refine rgx [3, 5] ?_
    intro M2
    (repeat refine DX_seq ?_); refine DX_block ?_
    have hX := And.intro hl (hol)
    have hK := And.intro (on_c (startS seed pre.length) 3 (by rw [startS_len]; omega) (by omega)) trivial; (repeat refine DX_seq ?_); refine rtx 3 [] ?_
    exact .inl ⟨rfl, _, WeakX.refl _, by simp [sigN, hol, Nat.mul_add, byteD_four, Nat.add_assoc, mk]⟩
  · have hl := sigN_len seed (fun _ => 3) 68
    rw [startsI_len]
    have hX := And.intro hl (and_true)
    (repeat refine DX_seq ?_); refine DX_reg [2] ?_; intro w0 A S0 f0; (repeat ((with_reducible show DR _ _ _ (_ :: _) _); first | (refine cx _ (envG _ _ _ _ _ _) rfl rfl rfl rfl rfl ?_ (hc := by first | exact sum_c (4 :: sigN seed (fun _ => 3) 68) (by rw [List.length_cons, hl]; omega)))  | (refine sx ?_))); refine DR_nil ?_; refine kl1 ?_
    (repeat refine DX_seq ?_); refine DX_ret ?_; refine retx ?_; (try dsimp only [outV, unlist])
    exact Fin_pure rfl
end Go.Proofs.YtedioenakmgdiaaDoor

namespace Go.Proofs.YtedioenakmgdiaaDoor
set_option linter.unusedSimpArgs false
set_option linter.unusedVariables false
set_option maxRecDepth 10000
open Go.RowKit
/-- a digit of a text -/
def digA (text : List UInt8) (k : Nat) : Nat := (digS text).getD k 0
def signS (seed text : List UInt8) : List UInt8 := sigN seed (digA text) 68
theorem digA_le (text : List UInt8) (k : Nat) : digA text k ≤ 3 := getD_le (digS_lt text) k
set_option maxHeartbeats 4000000 in
theorem sign_c (seed text : List UInt8) (hs : seed.length ≤ 1000000) (ht : text.length ≤ 1000000) : PC (envOf Tryd.prog) 78 [strD seed, strD text] (strD (signS seed text)) := by
  have hX := and_true; refine PC_atX Tryd.func78 rfl Tryd.ntmps78 Tryd.results78 rfl (by simp only [argsL, Nat.reduceAdd, u32D, u8D, iD, bD, strD, u32_xor, u32_or, u32_and, u32_add, u32_not, u32_shr, u32_shl, u8_u32, u32_u8]; exact rfl) ?_; intro w0 A
  (repeat refine DX_seq ?_); refine rgx [0, 1] ?_
  have hK := And.intro (digits_c text ht) trivial; (repeat refine DX_seq ?_); refine rgx [0, 5] ?_
  (repeat refine DX_seq ?_); refine rgx [0, 5, 6] ?_
  have hK := And.intro (starts_c seed) trivial; (repeat refine DX_seq ?_); refine rgx [5, 6, 12] ?_
  (repeat refine DX_seq ?_); refine DX_block ?_
  refine DX_weak (fun _ _ _ _ => Weak.nil_ownB 1 5 1 rfl) ?_
  refine DX_rangeX (items := startsI seed 68) [0, 1] [5, 6] (fun pre => [some (.one (.sl (digS text) 0 nD)), some (.one (.own 2 (16 * pre.length) 5 1)), some (.row ((sigN seed (digA text) pre.length).map byteD) 5 1)]) (fun _ _ => False)
    (startsG seed hs) (by kernel_rfl) rfl (fun _ _ _ _ => rfl) rfl rfl rfl rfl rfl (fun x hx => ?_) (fun M L pre x hx => ?_) ?_ (fun _ _ h => h.elim)
  · simp only [startsI, List.mem_map] at hx; obtain ⟨j, _, rfl⟩ := hx; rfl
  · obtain ⟨hj, rfl⟩ := startsI_at hx
    have hl := sigN_len seed (digA text) pre.length
    have hdl := digS_len text
    have hda := digA_le text pre.length
    have hol := onS_len (startS seed pre.length) (digA text pre.length) (startS_len _ _)
    have hde : (digS text).getD pre.length 0 = digA text pre.length := rfl
    have hnD : ∀ d : Nat, nD d = .v (.int .i64 (d : Int)) := fun _ => rfl
    refine DX_drop1 [5, 6, 13, 14] ?_
    (repeat refine DX_seq ?_); refine rgx [5, 6, 7, 14] ?_
    (repeat refine DX_seq ?_); refine rgx [5, 6, 7, 8] ?_
    intro M2
    (repeat refine DX_seq ?_); refine DX_block ?_
    have hX := And.intro hl (And.intro hol (And.intro hdl (And.intro hde (hnD))))
    have hK := And.intro (on_c (startS seed pre.length) (digA text pre.length) (by rw [startS_len]; omega) (by omega)) trivial; (repeat refine DX_seq ?_); refine rtx 7 [] ?_
    exact .inl ⟨rfl, _, WeakX.refl _, by simp [sigN, hol, Nat.mul_add, mk]⟩
  · have hl := sigN_len seed (digA text) 68
    rw [startsI_len]
    have hX := And.intro hl (and_true)
    (repeat refine DX_seq ?_); refine rgx [4] ?_
    (repeat refine DX_seq ?_); refine DX_ret ?_; refine retx ?_; (try dsimp only [outV, unlist])
    exact Fin_pure rfl
theorem refsumS_c (l : List UInt8) (hl : l.length ≤ 1048576) : PC (envOf Tryd.prog) 25 [strD l] (hashD (sumP l)) := by
  have := refsum_c l hl
  rwa [← sum_eq] at this
theorem refpub_start (seed : List UInt8) (k : Nat) : sigN seed (fun _ => 3) (k + 1) = sigN seed (fun _ => 3) k ++ onS (startS seed k) 3 := rfl
set_option maxHeartbeats 4000000 in
theorem refpublic_c (seed : List UInt8) (hs : seed.length ≤ 1000000) : PC (envOf Tryd.prog) 95 [strD seed] (hashD (publicS seed)) := by
  have hX := and_true; refine PC_atX Tryd.func95 rfl Tryd.ntmps95 Tryd.results95 rfl (by simp only [argsL, Nat.reduceAdd, u32D, u8D, iD, bD, strD, u32_xor, u32_or, u32_and, u32_add, u32_not, u32_shr, u32_shl, u8_u32, u32_u8]; exact rfl) ?_; intro w0 A
  (repeat refine DX_seq ?_); refine rgx [0, 2] ?_
  (repeat refine DX_seq ?_); refine rgx [0, 2, 3] ?_
  (repeat refine DX_seq ?_); refine rgx [0, 2, 3, 4] ?_
  (repeat refine DX_seq ?_); refine DX_block ?_
  (repeat refine DX_seq ?_); refine DX_loop (fun m _ st => ∃ k, k + m = 68 ∧ st = mk [(0, strD seed), (2, .ptr 0 0), (3, strD (4 :: sigN seed (fun _ => 3) k)), (4, iD (k : Int))] [some (.one (.arr .u8 32 fun _ => 0))]) 68 ⟨_, WeakX.refl _, 0, by omega, rfl⟩ ?_
  rintro m _ _ ⟨k, hk, rfl⟩
  (repeat refine DX_seq ?_); refine rgx [0, 2, 3, 4, 6] ?_
  (repeat refine DX_seq ?_); refine ifx ?_ ?_
  · intro hc; (try simp only [hcs, ne_eq] at hc)
    have hl := sigN_len seed (fun _ => 3) k
    have hol := onS_len (startS seed k) 3 (startS_len _ _)
    (repeat refine DX_seq ?_); refine DX_skip ?_
    (repeat refine DX_seq ?_); refine DX_block ?_
    have hX := And.intro hl (hol)
    have hK := And.intro (refstart_c seed k hs (by omega)) (And.intro (refon_c (startS seed k) 3 (by rw [startS_len]; omega) (by omega)) trivial); (repeat refine DX_seq ?_); refine rgx [0, 2, 3, 4] ?_
    (repeat refine DX_seq ?_); refine rgx [0, 2, 3, 4] ?_
    exact ⟨_, m - 1, WeakX.refl _, by omega, k + 1, by omega, by simp [iD, strD, sigN]⟩
  · intro hc; (try simp only [hcs, ne_eq] at hc)
    obtain rfl : k = 68 := by omega
    have hl := sigN_len seed (fun _ => 3) 68
    (repeat refine DX_seq ?_); refine DX_exit ?_
    (repeat refine DX_seq ?_); refine DX_reg [2] ?_; intro w0 A S0 f0; (repeat ((with_reducible show DR _ _ _ (_ :: _) _); first | (refine cx _ (envG _ _ _ _ _ _) rfl rfl rfl rfl rfl ?_ (hc := by first | exact refsumS_c (4 :: sigN seed (fun _ => 3) 68) (by rw [List.length_cons, hl]; omega)))  | (refine sx ?_))); refine DR_nil ?_; refine kl1 ?_
    (repeat refine DX_seq ?_); refine DX_ret ?_; refine retx ?_; (try dsimp only [outV, unlist])
    exact Fin_pure rfl
end Go.Proofs.YtedioenakmgdiaaDoor

namespace Go.Proofs.YtedioenakmgdiaaDoor
set_option linter.unusedSimpArgs false
set_option linter.unusedVariables false
set_option maxRecDepth 10000
open Go.RowKit
theorem lackP_app (a b : List Nat) (k : Nat) (hk : k ≤ b.length) : lackP (a ++ b) (a.length + k) = lackP a a.length + lackP b k := by
  induction k with
  | zero =>
    have : ∀ j, j ≤ a.length → lackP (a ++ b) j = lackP a j := by
      intro j hj
      induction j with
      | zero => rfl
      | succ j ih =>
        simp only [lackP]
        rw [ih (by omega)]
        simp [List.getD_eq_getElem?_getD, List.getElem?_append_left (show j < a.length by omega)]
    simpa [lackP] using this a.length (Nat.le_refl _)
  | succ k ih =>
    rw [← Nat.add_assoc]
    simp only [lackP]
    rw [ih (by omega)]
    have : (a ++ b).getD (a.length + k) 0 = b.getD k 0 := by simp [List.getD_eq_getElem?_getD, List.getElem?_append_right]
    rw [this]
    omega
theorem lackP_snoc (l : List Nat) (x : Nat) : lackP (l ++ [x]) (l.length + 1) = lackP l l.length + (3 - x) := by
  have := lackP_app l [x] 1 (by simp)
  simpa [lackP] using this
set_option maxHeartbeats 8000000 in
theorem refdigits_c (text : List UInt8) (ht : text.length ≤ 1000000) : PC (envOf Tryd.prog) 96 [strD text] (.sl (digS text) 0 nD) := by
  have hnD : ∀ d : Nat, nD d = .v (.int .i64 (d : Int)) := fun _ => rfl
  have hml := midS_len text
  unfold digS
  have hX := and_true; refine PC_atX Tryd.func96 rfl Tryd.ntmps96 Tryd.results96 rfl (by simp only [argsL, Nat.reduceAdd, u32D, u8D, iD, bD, strD, u32_xor, u32_or, u32_and, u32_add, u32_not, u32_shr, u32_shl, u8_u32, u32_u8]; exact rfl) ?_; intro w0 A
  have hX := And.intro hnD (hml)
  have hK := And.intro (refmidS_c text (by omega)) trivial; (repeat refine DX_seq ?_); refine rgx [0] ?_
  (repeat refine DX_seq ?_); refine rgx [3] ?_
  (repeat refine DX_seq ?_); refine rgx [3, 4] ?_
  (repeat refine DX_seq ?_); refine rgx [3, 4, 5] ?_
  (repeat refine DX_seq ?_); refine rgx [3, 4, 5, 6] ?_
  generalize midS text = m at hml ⊢
  (repeat refine DX_seq ?_); refine DX_block ?_
  refine DX_weak (fun _ _ _ _ => Weak.nil_own 4 3 1 rfl) ?_
  (repeat refine DX_seq ?_); refine DX_loop (fun j _ st => ∃ k, k + j = 16 ∧ st = mk [(3, strD m), (4, .own 0 (4 * k) 3 1), (5, nD (lackP (digP m k) (4 * k))), (6, nD k)] [some (.row ((digP m k).map nD) 3 1)]) 16 ⟨_, WeakX.pick [3, 4, 5, 6], 0, by omega, rfl⟩ ?_
  rintro j _ _ ⟨k, hk, rfl⟩
  have hX := And.intro hnD (hml)
  (repeat refine DX_seq ?_); refine rgx [3, 4, 5, 6, 13] ?_
  (repeat refine DX_seq ?_); refine ifx ?_ ?_
  · intro hc; (try simp only [hcs, ne_eq] at hc)
    have hl := digP_len m k
    generalize hx : (m.getD k 0).toNat = x
    have hxl : x < 256 := by rw [← hx]; exact UInt8.toNat_lt _
    (repeat refine DX_seq ?_); refine DX_skip ?_
    (repeat refine DX_seq ?_); refine DX_block ?_
    have hX := And.intro hnD (And.intro hml (hx))
    (repeat refine DX_seq ?_); refine rgx [3, 4, 5, 6, 7] ?_
    (repeat refine DX_seq ?_); refine rgx [3, 4, 5, 6, 7, 8] ?_
    (repeat refine DX_seq ?_); refine DX_block ?_
    (repeat refine DX_seq ?_); refine DX_loop (fun j _ st => ∃ i, i + j = 4 ∧ st = mk [(3, strD m), (4, .own 0 (4 * k + i) 3 1), (5, nD (lackP (digP m k ++ splitS x i) (4 * k + i))), (6, nD k), (7, nD (x / 4 ^ i)), (8, nD i)] [some (.row ((digP m k ++ splitS x i).map nD) 3 1)]) 4 ⟨_, WeakX.refl _, 0, by omega, ?_⟩ ?_
    · simp [splitS, nD, strD]
    rintro j2 _ _ ⟨i, hi, rfl⟩
    have hX := And.intro hnD (hml)
    (repeat refine DX_seq ?_); refine rgx [3, 4, 5, 6, 7, 8, 21] ?_
    (repeat refine DX_seq ?_); refine ifx ?_ ?_
    · intro hc; (try simp only [hcs, ne_eq] at hc)
      have hsl := splitS_len x i
      have hd : x / 4 ^ i ≤ x := Nat.div_le_self _ _
      have hsn := lackP_snoc (digP m k ++ splitS x i) (x / 4 ^ i % 4)
      rw [List.length_append, hl, hsl] at hsn
      have hlk := lackP_le (digP m k ++ splitS x i) (4 * k + i)
      have hx2 : x / 4 ^ (i + 1) = x / 4 ^ i / 4 := by rw [Nat.pow_succ, Nat.div_div_eq_div_mul]
      have hs2 : splitS x (i + 1) = splitS x i ++ [x / 4 ^ i % 4] := rfl
      generalize hy : x / 4 ^ i = y at *
      generalize hz : lackP (digP m k ++ splitS x i) (4 * k + i) = z at *
      have e3 : (3 : Int) - (y : Int) % 4 = ((3 - y % 4 : Nat) : Int) := by omega
      (repeat refine DX_seq ?_); refine DX_skip ?_
      (repeat refine DX_seq ?_); refine DX_block ?_
      have hX := And.intro hnD (And.intro hml (And.intro hl (hsl)))
      (repeat refine DX_seq ?_); refine rgx [3, 4, 5, 6, 7, 8] ?_
      (repeat refine DX_seq ?_); refine rgx [3, 4, 5, 6, 7, 8] ?_
      (repeat refine DX_seq ?_); refine rgx [3, 4, 5, 6, 7, 8] ?_
      (repeat refine DX_seq ?_); refine rgx [3, 4, 5, 6, 7, 8] ?_
      refine ⟨_, j2 - 1, WeakX.refl _, by omega, i + 1, by omega, ?_⟩
      rw [hs2, ← List.append_assoc, ← Nat.add_assoc, hsn, hx2]
      simp [nD, strD, hsl, e3]
    · intro hc; (try simp only [hcs, ne_eq] at hc)
      obtain rfl : i = 4 := by omega
      (repeat refine DX_seq ?_); refine DX_exit ?_
      (repeat refine DX_seq ?_); refine rgx [3, 4, 5, 6] ?_
      refine ⟨_, j - 1, WeakX.refl _, by omega, k + 1, by omega, ?_⟩
      subst hx
      simp [nD, strD, digP, Nat.mul_add]
  · intro hc; (try simp only [hcs, ne_eq] at hc)
    obtain rfl : k = 16 := by omega
    have hl := digP_len m 16
    have hll := lackP_le (digP m 16) 64
    generalize hL : lackP (digP m 16) 64 = L at *
    have hL' : lackP (digP m 16) (4 * 16) = L := hL
    (repeat refine DX_seq ?_); refine DX_exit ?_
    have hX := And.intro hnD (And.intro hml (hL'))
    (repeat refine DX_seq ?_); refine rgx [4, 5, 9] ?_
    generalize digP m 16 = dl at hl ⊢
    (repeat refine DX_seq ?_); refine DX_block ?_
    (repeat refine DX_seq ?_); refine DX_loop (fun j _ st => ∃ i, i + j = 4 ∧ st = mk [(4, .own 0 (64 + i) 3 1), (5, nD (L / 4 ^ i)), (9, nD i)] [some (.row ((dl ++ splitS L i).map nD) 3 1)]) 4 ⟨_, WeakX.refl _, 0, by omega, ?_⟩ ?_
    · simp [splitS, nD]
    rintro j2 _ _ ⟨i, hi, rfl⟩
    have hX := And.intro hnD (hml)
    (repeat refine DX_seq ?_); refine rgx [4, 5, 9, 37] ?_
    (repeat refine DX_seq ?_); refine ifx ?_ ?_
    · intro hc; (try simp only [hcs, ne_eq] at hc)
      have hsl := splitS_len L i
      have hd : L / 4 ^ i ≤ L := Nat.div_le_self _ _
      have hx2 : L / 4 ^ (i + 1) = L / 4 ^ i / 4 := by rw [Nat.pow_succ, Nat.div_div_eq_div_mul]
      have hs2 : splitS L (i + 1) = splitS L i ++ [L / 4 ^ i % 4] := rfl
      generalize hy : L / 4 ^ i = y at *
      (repeat refine DX_seq ?_); refine DX_skip ?_
      (repeat refine DX_seq ?_); refine DX_block ?_
      have hX := And.intro hnD (And.intro hml (And.intro hl (hsl)))
      (repeat refine DX_seq ?_); refine rgx [4, 5, 9] ?_
      (repeat refine DX_seq ?_); refine rgx [4, 5, 9] ?_
      (repeat refine DX_seq ?_); refine rgx [4, 5, 9] ?_
      refine ⟨_, j2 - 1, WeakX.refl _, by omega, i + 1, by omega, ?_⟩
      rw [hs2, ← List.append_assoc, hx2]
      simp [nD, hsl, Nat.add_assoc]
    · intro hc; (try simp only [hcs, ne_eq] at hc)
      obtain rfl : i = 4 := by omega
      have hsl := splitS_len L 4
      (repeat refine DX_seq ?_); refine DX_exit ?_
      (repeat refine DX_seq ?_); refine rgx [2] ?_
      (repeat refine DX_seq ?_); refine DX_ret ?_; refine retx ?_; (try dsimp only [outV, unlist])
      refine Fin_elems rfl (by simp only [elems, List.getElem?_cons_zero]; exact rfl) (by simp [hl, hsl]) ?_ (fun _ => rfl)
      rw [List.take_of_length_le (by simp [hl, hsl])]
end Go.Proofs.YtedioenakmgdiaaDoor

namespace Go.Proofs.YtedioenakmgdiaaDoor
set_option linter.unusedSimpArgs false
set_option linter.unusedVariables false
set_option maxRecDepth 10000
open Go.RowKit
set_option maxHeartbeats 4000000 in
theorem refsign_c (seed text : List UInt8) (hs : seed.length ≤ 1000000) (ht : text.length ≤ 1000000) : PC (envOf Tryd.prog) 69 [strD seed, strD text] (strD (signS seed text)) := by
  have hnD : ∀ d : Nat, nD d = .v (.int .i64 (d : Int)) := fun _ => rfl
  have hdl := digS_len text
  have hX := and_true; refine PC_atX Tryd.func69 rfl Tryd.ntmps69 Tryd.results69 rfl (by simp only [argsL, Nat.reduceAdd, u32D, u8D, iD, bD, strD, u32_xor, u32_or, u32_and, u32_add, u32_not, u32_shr, u32_shl, u8_u32, u32_u8]; exact rfl) ?_; intro w0 A
  (repeat refine DX_seq ?_); refine rgx [0, 1] ?_
  (repeat refine DX_seq ?_); refine rgx [0, 1, 5] ?_
  have hX := And.intro hdl (and_true)
  have hK := And.intro (refdigits_c text ht) trivial; (repeat refine DX_seq ?_); refine rgx [0, 5, 9, 10, 11] ?_
  (repeat refine DX_seq ?_); refine DX_block ?_
  (repeat refine DX_seq ?_); refine DX_loop (fun m _ st => ∃ k, k + m = 68 ∧ st = mk [(0, strD seed), (5, strD (sigN seed (digA text) k)), (9, .sl (digS text) 0 nD), (10, nD 68), (11, nD k)] []) 68 ⟨_, WeakX.refl _, 0, by omega, rfl⟩ ?_
  rintro m _ _ ⟨k, hk, rfl⟩
  have hX := And.intro hdl (hnD)
  (repeat refine DX_seq ?_); refine rgx [0, 5, 9, 10, 11, 12] ?_
  (repeat refine DX_seq ?_); refine ifx ?_ ?_
  · intro hc; (try simp only [hcs, ne_eq] at hc)
    have hl := sigN_len seed (digA text) k
    have hda := digA_le text k
    have hol := onS_len (startS seed k) (digA text k) (startS_len _ _)
    have hde : (digS text).getD k 0 = digA text k := rfl
    (repeat refine DX_seq ?_); refine DX_skip ?_
    (repeat refine DX_seq ?_); refine DX_block ?_
    have hX := And.intro hdl (And.intro hde (hnD))
    (repeat refine DX_seq ?_); refine rgx [0, 5, 6, 7, 9, 10, 11] ?_
    have hX := And.intro hdl (And.intro hl (And.intro hol (hnD)))
    have hK := And.intro (refstart_c seed k hs (by omega)) (And.intro (refon_c (startS seed k) (digA text k) (by rw [startS_len]; omega) (by omega)) trivial); (repeat refine DX_seq ?_); refine rgx [0, 5, 9, 10, 11] ?_
    (repeat refine DX_seq ?_); refine rgx [0, 5, 9, 10, 11] ?_
    exact ⟨_, m - 1, WeakX.refl _, by omega, k + 1, by omega, by simp [nD, strD, sigN]⟩
  · intro hc; (try simp only [hcs, ne_eq] at hc)
    obtain rfl : k = 68 := by omega
    (repeat refine DX_seq ?_); refine DX_exit ?_
    (repeat refine DX_seq ?_); refine rgx [4] ?_
    (repeat refine DX_seq ?_); refine DX_ret ?_; refine retx ?_; (try dsimp only [outV, unlist])
    exact Fin_pure rfl
/-- pieces of a signature, led on to the ends of their chains -/
def recN (sig : List UInt8) (d : Nat → Nat) : Nat → List UInt8
  | 0 => []
  | k + 1 => recN sig d k ++ onS ((sig.drop (16 * k)).take 16) (3 - d k)
theorem piece_len {sig : List UInt8} {k : Nat} (h : 16 * k + 16 ≤ sig.length) : ((sig.drop (16 * k)).take 16).length = 16 := by simp; omega
theorem recN_len (sig : List UInt8) (d : Nat → Nat) (k : Nat) (h : 16 * k ≤ sig.length) : (recN sig d k).length = 16 * k := by
  induction k with
  | zero => rfl
  | succ k ih => simp only [recN, List.length_append]; rw [ih (by omega), onS_len _ _ (piece_len (by omega))]; omega
def recS (text sig : List UInt8) : List UInt8 := sumP (4 :: recN sig (digA text) 68)
/-- what is recovered, and whether -/
def recD (text sig : List UInt8) : D := .tup (.cons (if sig.length = 1088 then hashD (recS text sig) else .arr .u8 32 (fun _ => 0)) (.cons (iD (if sig.length = 1088 then 0 else 2)) .nil))
set_option maxHeartbeats 8000000 in
theorem recover_c (text sig : List UInt8) (ht : text.length ≤ 1000000) : PC (envOf Tryd.prog) 73 [strD text, strD sig] (recD text sig) := by
  have hnD : ∀ d : Nat, nD d = .v (.int .i64 (d : Int)) := fun _ => rfl
  have hdl := digS_len text
  unfold recD
  have hX := and_true; refine PC_atX Tryd.func73 rfl Tryd.ntmps73 Tryd.results73 rfl (by simp only [argsL, Nat.reduceAdd, u32D, u8D, iD, bD, strD, u32_xor, u32_or, u32_and, u32_add, u32_not, u32_shr, u32_shl, u8_u32, u32_u8]; exact rfl) ?_; intro w0 A
  (repeat refine DX_seq ?_); refine rgx [0, 1, 4] ?_
  (repeat refine DX_seq ?_); refine rgx [0, 1, 4, 11] ?_
  (repeat refine DX_seq ?_); refine ifx ?_ ?_
  · intro hc; (try simp only [hcs, ne_eq] at hc)
    rw [if_neg (by omega), if_neg (by omega)]
    (repeat refine DX_seq ?_); refine rgx [4, 5] ?_
    (repeat refine DX_seq ?_); refine DX_ret ?_; refine retx ?_; (try dsimp only [outV, unlist])
    exact Fin_pure rfl
  · intro hc; (try simp only [hcs, ne_eq] at hc)
    have hsl : sig.length = 1088 := by omega
    rw [if_pos hsl, if_pos hsl]
    (repeat refine DX_seq ?_); refine DX_skip ?_
    (repeat refine DX_seq ?_); refine DX_reg [0, 1, 4, 6] ?_; intro w0 A S0 f0; refine ex rfl (dobsl1 rfl rfl rfl rfl rfl) ?_; (repeat ((with_reducible show DR _ _ _ (_ :: _) _); first | (refine cx _ (envG _ _ _ _ _ _) rfl rfl rfl rfl rfl ?_ (hc := by first | fail))  | (refine sx ?_))); refine DR_nil ?_; refine kl1 ?_
    have hX := And.intro hdl (and_true)
    have hK := And.intro (digits_c text ht) trivial; (repeat refine DX_seq ?_); refine rgx [1, 4, 6, 16, 17, 18] ?_
    (repeat refine DX_seq ?_); refine DX_block ?_
    (repeat refine DX_seq ?_); refine DX_loop (fun m _ st => ∃ k, k + m = 68 ∧ st = mk [(1, strD (sig.drop (16 * k))), (4, .ptr 0 0), (6, .own 1 (1 + 16 * k) 5 1), (16, .sl (digS text) 0 nD), (17, nD 68), (18, nD k)] [some (.one (.arr .u8 32 fun _ => 0)), some (.row ((4 :: recN sig (digA text) k).map byteD) 5 1)]) 68 ⟨_, WeakX.refl _, 0, by omega, rfl⟩ ?_
    rintro m _ _ ⟨k, hk, rfl⟩
    have hX := And.intro hdl (hnD)
    (repeat refine DX_seq ?_); refine rgx [1, 4, 6, 16, 17, 18, 19] ?_
    (repeat refine DX_seq ?_); refine ifx ?_ ?_
    · intro hc; (try simp only [hcs, ne_eq] at hc)
      have hl := recN_len sig (digA text) k (by omega)
      have hda := digA_le text k
      have hpl := piece_len (sig := sig) (k := k) (by omega)
      have hol := onS_len ((sig.drop (16 * k)).take 16) (3 - digA text k) hpl
      have hde : (digS text).getD k 0 = digA text k := rfl
      have hdrl : (sig.drop (16 * k)).length = 1088 - 16 * k := by rw [List.length_drop, hsl]
      have e3 : (3 : Int) - (digA text k : Int) = ((3 - digA text k : Nat) : Int) := by omega
      (repeat refine DX_seq ?_); refine DX_skip ?_
      (repeat refine DX_seq ?_); refine DX_block ?_
      have hX := And.intro hdl (And.intro hde (hnD))
      (repeat refine DX_seq ?_); refine rgx [1, 4, 6, 8, 16, 17, 18] ?_
      have hX := And.intro hdl (And.intro hl (And.intro hol (And.intro hnD (And.intro e3 (hdrl)))))
      have hK := And.intro (on_c ((sig.drop (16 * k)).take 16) (3 - digA text k) (by omega) (by omega)) trivial; (repeat refine DX_seq ?_); refine rgx [1, 4, 6, 16, 17, 18] ?_
      (repeat refine DX_seq ?_); refine rgx [1, 4, 6, 16, 17, 18] ?_
      (repeat refine DX_seq ?_); refine rgx [1, 4, 6, 16, 17, 18] ?_
      refine ⟨_, m - 1, WeakX.refl _, by omega, k + 1, by omega, ?_⟩
      simp [nD, strD, recN, Nat.mul_add, Nat.add_assoc, hol, byteD_four]
    · intro hc; (try simp only [hcs, ne_eq] at hc)
      obtain rfl : k = 68 := by omega
      have hl := recN_len sig (digA text) 68 (by omega)
      (repeat refine DX_seq ?_); refine DX_exit ?_
      have hX := And.intro hl (and_true)
      have hK := And.intro (sum_c (4 :: recN sig (digA text) 68) (by rw [List.length_cons, hl]; omega)) trivial; (repeat refine DX_seq ?_); refine rgx [4, 5] ?_
      (repeat refine DX_seq ?_); refine DX_ret ?_; refine retx ?_; (try dsimp only [outV, unlist])
      exact Fin_pure rfl
end Go.Proofs.YtedioenakmgdiaaDoor

namespace Go.Proofs.YtedioenakmgdiaaDoor
set_option linter.unusedSimpArgs false
set_option linter.unusedVariables false
set_option maxRecDepth 10000
open Go.RowKit
set_option maxHeartbeats 8000000 in
theorem refrecover_c (text sig : List UInt8) (ht : text.length ≤ 1000000) : PC (envOf Tryd.prog) 75 [strD text, strD sig] (recD text sig) := by
  have hnD : ∀ d : Nat, nD d = .v (.int .i64 (d : Int)) := fun _ => rfl
  have hdl := digS_len text
  unfold recD
  have hX := and_true; refine PC_atX Tryd.func75 rfl Tryd.ntmps75 Tryd.results75 rfl (by simp only [argsL, Nat.reduceAdd, u32D, u8D, iD, bD, strD, u32_xor, u32_or, u32_and, u32_add, u32_not, u32_shr, u32_shl, u8_u32, u32_u8]; exact rfl) ?_; intro w0 A
  (repeat refine DX_seq ?_); refine rgx [0, 1, 4] ?_
  (repeat refine DX_seq ?_); refine rgx [0, 1, 4, 11] ?_
  (repeat refine DX_seq ?_); refine ifx ?_ ?_
  · intro hc; (try simp only [hcs, ne_eq] at hc)
    rw [if_neg (by omega), if_neg (by omega)]
    (repeat refine DX_seq ?_); refine rgx [4, 5] ?_
    (repeat refine DX_seq ?_); refine DX_ret ?_; refine retx ?_; (try dsimp only [outV, unlist])
    exact Fin_pure rfl
  · intro hc; (try simp only [hcs, ne_eq] at hc)
    have hsl : sig.length = 1088 := by omega
    rw [if_pos hsl, if_pos hsl]
    (repeat refine DX_seq ?_); refine DX_skip ?_
    (repeat refine DX_seq ?_); refine rgx [0, 1, 4, 6] ?_
    have hX := And.intro hdl (and_true)
    have hK := And.intro (refdigits_c text ht) trivial; (repeat refine DX_seq ?_); refine rgx [1, 4, 6, 14, 15, 16] ?_
    (repeat refine DX_seq ?_); refine DX_block ?_
    (repeat refine DX_seq ?_); refine DX_loop (fun m _ st => ∃ k, k + m = 68 ∧ st = mk [(1, strD sig), (4, .ptr 0 0), (6, strD (4 :: recN sig (digA text) k)), (14, .sl (digS text) 0 nD), (15, nD 68), (16, nD k)] [some (.one (.arr .u8 32 fun _ => 0))]) 68 ⟨_, WeakX.refl _, 0, by omega, rfl⟩ ?_
    rintro m _ _ ⟨k, hk, rfl⟩
    have hX := And.intro hdl (hnD)
    (repeat refine DX_seq ?_); refine rgx [1, 4, 6, 14, 15, 16, 17] ?_
    (repeat refine DX_seq ?_); refine ifx ?_ ?_
    · intro hc; (try simp only [hcs, ne_eq] at hc)
      have hl := recN_len sig (digA text) k (by omega)
      have hda := digA_le text k
      have hpl := piece_len (sig := sig) (k := k) (by omega)
      have hol := onS_len ((sig.drop (16 * k)).take 16) (3 - digA text k) hpl
      have hde : (digS text).getD k 0 = digA text k := rfl
      have e3 : (3 : Int) - (digA text k : Int) = ((3 - digA text k : Nat) : Int) := by omega
      have e4 : (16 : Int) * (k : Int) = ((16 * k : Nat) : Int) := by omega
      have e5 : (16 : Int) * ((k : Int) + 1) = ((16 * k + 16 : Nat) : Int) := by omega
      have e6 : (sig.take (16 * k + 16)).drop (16 * k) = (sig.drop (16 * k)).take 16 := by rw [List.drop_take, show 16 * k + 16 - 16 * k = 16 by omega]
      (repeat refine DX_seq ?_); refine DX_skip ?_
      (repeat refine DX_seq ?_); refine DX_block ?_
      have hX := And.intro hdl (And.intro hde (hnD))
      (repeat refine DX_seq ?_); refine rgx [1, 4, 6, 7, 8, 14, 15, 16] ?_
      have hX := And.intro hdl (And.intro hl (And.intro hol (And.intro hnD (And.intro e3 (And.intro e4 (And.intro e5 (And.intro e6 (hsl))))))))
      have hK := And.intro (refon_c ((sig.drop (16 * k)).take 16) (3 - digA text k) (by omega) (by omega)) trivial; (repeat refine DX_seq ?_); refine rgx [1, 4, 6, 14, 15, 16] ?_
      (repeat refine DX_seq ?_); refine rgx [1, 4, 6, 14, 15, 16] ?_
      refine ⟨_, m - 1, WeakX.refl _, by omega, k + 1, by omega, ?_⟩
      simp [nD, strD, recN]
    · intro hc; (try simp only [hcs, ne_eq] at hc)
      obtain rfl : k = 68 := by omega
      have hl := recN_len sig (digA text) 68 (by omega)
      (repeat refine DX_seq ?_); refine DX_exit ?_
      have hX := And.intro hl (and_true)
      have hK := And.intro (refsumS_c (4 :: recN sig (digA text) 68) (by rw [List.length_cons, hl]; omega)) trivial; (repeat refine DX_seq ?_); refine rgx [4, 5] ?_
      (repeat refine DX_seq ?_); refine DX_ret ?_; refine retx ?_; (try dsimp only [outV, unlist])
      exact Fin_pure rfl
theorem take_all {a b : List Nat} (hl : a.length = b.length) (h : ∀ k, k < a.length → a.getD k 0 = b.getD k 0) : a = b := by
  apply List.ext_getElem hl
  intro i h1 h2
  have := h i h1
  simpa [List.getD_eq_getElem?_getD, h1, h2] using this
def nsD (l : List Nat) : D := .sl l 0 nD
set_option maxHeartbeats 4000000 in
theorem same_c (a b : List Nat) (ha : a.length ≤ 1000000) : PC (envOf Tryd.prog) 50 [nsD a, nsD b] (bD (decide (a = b))) := by
  have hnD : ∀ d : Nat, nD d = .v (.int .i64 (d : Int)) := fun _ => rfl
  have hns : ∀ l : List Nat, nsD l = .sl l 0 nD := fun _ => rfl
  have hX := and_true; refine PC_atX Tryd.func50 rfl Tryd.ntmps50 Tryd.results50 rfl (by simp only [argsL, Nat.reduceAdd, u32D, u8D, iD, bD, strD, u32_xor, u32_or, u32_and, u32_add, u32_not, u32_shr, u32_shl, u8_u32, u32_u8]; exact rfl) ?_; intro w0 A
  have hX := And.intro hns (hnD)
  (repeat refine DX_seq ?_); refine rgx [0, 1] ?_
  (repeat refine DX_seq ?_); refine rgx [0, 1, 10] ?_
  (repeat refine DX_seq ?_); refine ifx ?_ ?_
  · intro hc; (try simp only [hcs, ne_eq] at hc)
    (repeat refine DX_seq ?_); refine rgx [4] ?_
    (repeat refine DX_seq ?_); refine DX_ret ?_; refine retx ?_; (try dsimp only [outV, unlist])
    rw [decide_eq_false (fun e => by subst e; exact hc rfl)]
    exact Fin_pure rfl
  · intro hc; (try simp only [hcs, ne_eq] at hc)
    have hl : a.length = b.length := by omega
    (repeat refine DX_seq ?_); refine DX_skip ?_
    (repeat refine DX_seq ?_); refine rgx [0, 1, 12, 13] ?_
    (repeat refine DX_seq ?_); refine DX_block ?_
    (repeat refine DX_seq ?_); refine DX_loop (fun m _ st => ∃ k, k + m = a.length ∧ (∀ i, i < k → a.getD i 0 = b.getD i 0) ∧ st = mk [(0, nsD a), (1, nsD b), (12, nD a.length), (13, nD k)] []) a.length ⟨_, WeakX.refl _, 0, by omega, fun i hi => absurd hi (by omega), rfl⟩ ?_
    rintro m _ _ ⟨k, hk, hall, rfl⟩
    have hX := And.intro hns (hnD)
    (repeat refine DX_seq ?_); refine rgx [0, 1, 12, 13, 14] ?_
    (repeat refine DX_seq ?_); refine ifx ?_ ?_
    · intro hc; (try simp only [hcs, ne_eq] at hc)
      (repeat refine DX_seq ?_); refine DX_skip ?_
      (repeat refine DX_seq ?_); refine DX_block ?_
      have hX := And.intro hns (hnD)
      (repeat refine DX_seq ?_); refine rgx [0, 1, 5, 12, 13] ?_
      (repeat refine DX_seq ?_); refine rqx [0, 1, 12, 13, 24] ?_
      (repeat refine DX_seq ?_); refine ifx ?_ ?_
      · intro hc; (try simp only [hcs, ne_eq] at hc)
        (repeat refine DX_seq ?_); refine rgx [4] ?_
        (repeat refine DX_seq ?_); refine DX_ret ?_; refine retx ?_; (try dsimp only [outV, unlist])
        rw [decide_eq_false (fun e => by subst e; exact hc rfl)]
        exact Fin_pure rfl
      · intro hc; (try simp only [hcs, ne_eq] at hc)
        have hc' : a.getD k 0 = b.getD k 0 := by omega
        (repeat refine DX_seq ?_); refine DX_skip ?_
        (repeat refine DX_seq ?_); refine rgx [0, 1, 12, 13] ?_
        refine ⟨_, m - 1, WeakX.refl _, by omega, k + 1, by omega, fun i hi => ?_, by simp [nD, nsD]⟩
        by_cases e : i = k
        · rw [e]; exact hc'
        · exact hall i (by omega)
    · intro hc; (try simp only [hcs, ne_eq] at hc)
      obtain rfl : k = a.length := by omega
      (repeat refine DX_seq ?_); refine DX_exit ?_
      (repeat refine DX_seq ?_); refine rgx [4] ?_
      (repeat refine DX_seq ?_); refine DX_ret ?_; refine retx ?_; (try dsimp only [outV, unlist])
      rw [decide_eq_true (take_all hl hall)]
      exact Fin_pure rfl
end Go.Proofs.YtedioenakmgdiaaDoor

namespace Go.Proofs.YtedioenakmgdiaaDoor
set_option linter.unusedSimpArgs false
set_option linter.unusedVariables false
set_option maxRecDepth 10000
open Go.RowKit
theorem onS_add (x : List UInt8) (a b : Nat) : onS (onS x a) b = onS x (a + b) := by
  induction b with
  | zero => rfl
  | succ b ih => rw [← Nat.add_assoc]; simp only [onS]; rw [ih]
theorem sigN_pre (seed : List UInt8) (d : Nat → Nat) (k n : Nat) (h : k ≤ n) : (sigN seed d n).take (16 * k) = sigN seed d k := by
  induction n with
  | zero =>
    obtain rfl : k = 0 := by omega
    rfl
  | succ n ih =>
    have hl := sigN_len seed d n
    by_cases e : k = n + 1
    · subst e; rw [List.take_of_length_le (by rw [sigN_len]; omega)]
    · simp only [sigN]
      rw [List.take_append_of_le_length (show 16 * k ≤ (sigN seed d n).length by rw [hl]; omega)]
      exact ih (by omega)
theorem sigN_piece (seed : List UInt8) (d : Nat → Nat) (k n : Nat) (h : k < n) : ((sigN seed d n).drop (16 * k)).take 16 = onS (startS seed k) (d k) := by
  have h1 : (sigN seed d n).take (16 * (k + 1)) = sigN seed d k ++ onS (startS seed k) (d k) := sigN_pre seed d (k + 1) n h
  have h2 := congrArg (List.drop (16 * k)) h1
  rw [List.drop_take, show 16 * (k + 1) - 16 * k = 16 by omega, List.drop_left' (sigN_len seed d k)] at h2
  exact h2
theorem recN_sig (seed : List UInt8) (d : Nat → Nat) (hd : ∀ k, d k ≤ 3) (n : Nat) : ∀ k, k ≤ n → recN (sigN seed d n) d k = sigN seed (fun _ => 3) k
  | 0, _ => rfl
  | k + 1, h => by
    simp only [recN, sigN]
    rw [recN_sig seed d hd n k (by omega), sigN_piece seed d k n (by omega), onS_add, show d k + (3 - d k) = 3 from by have := hd k; omega]
theorem signS_len (seed text : List UInt8) : (signS seed text).length = 1088 := by unfold signS; rw [sigN_len]
/-- from a signature the public sum is recovered -/
theorem rec_sign (seed text : List UInt8) : recS text (signS seed text) = publicS seed := by
  unfold recS publicS signS
  rw [recN_sig seed _ (digA_le text) 68 68 (by omega)]
/-! ### digits -/
theorem digP_at (m : List UInt8) : ∀ (k i : Nat), i < 4 * k → (digP m k).getD i 0 = (m.getD (i / 4) 0).toNat / 4 ^ (i % 4) % 4
  | 0, i, h => by omega
  | k + 1, i, h => by
    have hl := digP_len m k
    simp only [digP, List.getD_eq_getElem?_getD]
    by_cases e : i < 4 * k
    · rw [List.getElem?_append_left (by omega)]
      have := digP_at m k i e
      rwa [List.getD_eq_getElem?_getD] at this
    · have hik : i / 4 = k := by omega
      rw [List.getElem?_append_right (by omega), hl, hik]
      have : i - 4 * k = 0 ∨ i - 4 * k = 1 ∨ i - 4 * k = 2 ∨ i - 4 * k = 3 := by omega
      rcases this with e1 | e1 | e1 | e1 <;> (rw [e1]; have e2 : i % 4 = i - 4 * k := by omega) <;> (rw [e2, e1]; simp [splitS])
theorem digA_lo (text : List UInt8) (i : Nat) (h : i < 64) : digA text i = ((midS text).getD (i / 4) 0).toNat / 4 ^ (i % 4) % 4 := by
  unfold digA digS
  rw [← digP_at (midS text) 16 i (by omega)]
  simp only [List.getD_eq_getElem?_getD]
  rw [List.getElem?_append_left (by rw [digP_len]; omega)]
theorem split4 (n i : Nat) (hi : i < 4) : (splitS n 4).getD i 0 = n / 4 ^ i % 4 := by
  rcases (show i = 0 ∨ i = 1 ∨ i = 2 ∨ i = 3 by omega) with rfl | rfl | rfl | rfl <;> simp [splitS]
def lackS (text : List UInt8) : Nat := lackP (digP (midS text) 16) 64
theorem digA_hi (text : List UInt8) (i : Nat) (h : i < 4) : digA text (64 + i) = lackS text / 4 ^ i % 4 := by
  unfold digA digS
  rw [← split4 _ i h]
  simp only [List.getD_eq_getElem?_getD]
  rw [List.getElem?_append_right (by rw [digP_len]; omega), digP_len]
  simp [lackS]
/-- the lack, by the digits -/
def lackA (text : List UInt8) : Nat → Nat
  | 0 => 0
  | k + 1 => lackA text k + (3 - digA text k)
theorem lackP_A (text : List UInt8) : ∀ k, k ≤ 64 → lackP (digP (midS text) 16) k = lackA text k
  | 0, _ => rfl
  | k + 1, h => by
    simp only [lackP, lackA]
    rw [lackP_A text k (by omega)]
    have : (digP (midS text) 16).getD k 0 = digA text k := by rw [digP_at _ _ _ (by omega), digA_lo text k (by omega)]
    rw [this]
theorem lack_val (text : List UInt8) : digA text 64 + 4 * digA text 65 + 16 * digA text 66 + 64 * digA text 67 = lackA text 64 := by
  have h1 := digA_hi text 0 (by omega)
  have h2 := digA_hi text 1 (by omega)
  have h3 := digA_hi text 2 (by omega)
  have h4 := digA_hi text 3 (by omega)
  have hb : lackS text ≤ 192 := lackP_le _ 64
  have he : lackS text = lackA text 64 := lackP_A text 64 (Nat.le_refl _)
  simp only [Nat.reduceAdd, Nat.add_zero] at h1 h2 h3 h4
  rw [h1, h2, h3, h4, ← he]
  simp only [Nat.pow_zero, Nat.div_one, Nat.pow_one, Nat.reducePow]
  omega
/-- digits that are nowhere above others: the lack is no less -/
theorem lack_mono {a b : List UInt8} (h : ∀ k, k < 68 → digA a k ≤ digA b k) : ∀ k, k ≤ 64 → lackA b k ≤ lackA a k ∧ (lackA b k = lackA a k → ∀ i, i < k → digA a i = digA b i)
  | 0, _ => ⟨Nat.le_refl _, fun _ i hi => by omega⟩
  | k + 1, hk => by
    obtain ⟨h1, h2⟩ := lack_mono h k (by omega)
    have h3 := h k (by omega)
    have h4 := digA_le a k
    have h5 := digA_le b k
    simp only [lackA]
    refine ⟨by omega, fun he i hi => ?_⟩
    by_cases e : i = k
    · subst e; omega
    · exact h2 (by omega) i (by omega)
theorem dig_same {a b : List UInt8} (h : ∀ k, k < 68 → digA a k ≤ digA b k) : ∀ k, k < 68 → digA a k = digA b k := by
  obtain ⟨h1, h2⟩ := lack_mono h 64 (Nat.le_refl _)
  have v1 := lack_val a
  have v2 := lack_val b
  have a0 := h 64 (by omega)
  have a1 := h 65 (by omega)
  have a2 := h 66 (by omega)
  have a3 := h 67 (by omega)
  intro k hk
  by_cases e : k < 64
  · exact h2 (by omega) k e
  · rcases (show k = 64 ∨ k = 65 ∨ k = 66 ∨ k = 67 by omega) with rfl | rfl | rfl | rfl <;> omega
theorem mid_same {a b : List UInt8} (h : ∀ k, k < 64 → digA a k = digA b k) : midS a = midS b := by
  have ha := midS_len a
  have hb := midS_len b
  apply List.ext_getElem (by omega)
  intro i h1 h2
  have hg : ∀ j, j < 4 → ((midS a).getD i 0).toNat / 4 ^ j % 4 = ((midS b).getD i 0).toNat / 4 ^ j % 4 := fun j hj => by
    have := h (4 * i + j) (by omega)
    rw [digA_lo a _ (by omega), digA_lo b _ (by omega), show (4 * i + j) / 4 = i by omega, show (4 * i + j) % 4 = j by omega] at this
    exact this
  have g0 := hg 0 (by omega)
  have g1 := hg 1 (by omega)
  have g2 := hg 2 (by omega)
  have g3 := hg 3 (by omega)
  have l1 := ((midS a).getD i 0).toNat_lt
  have l2 := ((midS b).getD i 0).toNat_lt
  have : (midS a).getD i 0 = (midS b).getD i 0 := by
    apply UInt8.toNat_inj.1
    simp only [Nat.reducePow, Nat.pow_zero, Nat.div_one] at g0 g1 g2 g3
    omega
  simpa [List.getD_eq_getElem?_getD, h1, h2] using this
end Go.Proofs.YtedioenakmgdiaaDoor
