/- Chains' starts. Chains' starts, handed on one by one. Digits of a number. Digits of a text. A seed's sum, and its signatures. Signatures. The document's digits are a text's. The document's signatures; what is recovered from signatures. What the document recovers; lists compared. -/
import Derived.Test.YtcdnpmpjeeiapaaDoorQPD
import Derived.Test.YtcdnpmpjeeiapaaDoorQPG
set_option linter.unusedSimpArgs false
set_option linter.unusedVariables false
set_option maxRecDepth 10000
namespace Go.Proofs.YtcdnpmpjeeiapaaDoor
open Go.RowKit
def jl8 (seed : List UInt8) (j : Nat) : List UInt8 := midS (3 :: UInt8.ofNat j :: seed)

def ji5 (seed : List UInt8) (k : Nat) : List (List D) := (List.range k).map fun (j : Nat) => [iD (j : Int), strD (jl8 seed j)]
theorem kf4 (seed : List UInt8) (k : Nat) : ji5 seed k ++ [[iD (k : Int), strD (jl8 seed k)]] = ji5 seed (k + 1) := by simp [ji5, List.range_succ]
theorem qh8 (seed : List UInt8) {k m : Nat} (h : k ≤ m) : ji5 seed k <+: ji5 seed m := by
  obtain ⟨d, rfl⟩ := Nat.exists_eq_add_of_le h
  refine ⟨(List.range d).map fun (j : Nat) => [iD ((k + j : Nat) : Int), strD (jl8 seed (k + j))], ?_⟩
  simp only [ji5, List.range_add, List.map_append, List.map_map]
  rfl
set_option maxHeartbeats 2000000 in
theorem qa2 (seed : List UInt8) : PC (jb8 Tryd.prog) 145 [strD seed] (.fn 173 (jh5 [.ip (strD seed)])) := by
  have hX := and_true; refine jb6 Tryd.func145 rfl Tryd.ntmps145 Tryd.results145 rfl (by simp only [jb5, Nat.reduceAdd, u32D, u8D, iD, bD, strD, ja6, jb1, ja5, ja3, ja4, ja2, ja1, jb2, jb0]; exact rfl) ?_; intro w0 A
  (repeat refine ja0 ?_); refine rgx [1] ?_
  (repeat refine ja0 ?_); refine rgx [2] ?_
  (repeat refine ja0 ?_); refine ja9 ?_; refine retx ?_; (try dsimp only [outV, ja8])
  exact ki0 rfl rfl rfl
set_option maxHeartbeats 4000000 in
theorem ql6 (seed : List UInt8) (hs : seed.length ≤ 1000000) : SeqX (jb8 Tryd.prog) 173 (jh5 [.ip (strD seed)]) (ji5 seed 68) := by
  have hX := and_true; refine kh8 Tryd.func173 rfl Tryd.ntmps173 Tryd.results173 rfl rfl rfl ?_; intro k; refine jv7 (by simp only [jb5, Nat.reduceAdd, u32D, u8D, iD, bD, strD, ja6, jb1, ja5, ja3, ja4, ja2, ja1, jb2, jb0]; exact rfl) ?_
  (repeat refine ja0 ?_); refine rgx [0, 1, 4] ?_
  (repeat refine ja0 ?_); refine jb9 ?_
  (repeat refine ja0 ?_); refine jf4 (fun m g st => ∃ j, j + m = 68 ∧ g = (ji5 seed j, true) ∧ st = mk [(0, .v (.func (.yield k.l) #[] #[])), (1, .ip (strD seed)), (4, iD (j : Int))] []) 68 ⟨_, WeakX.refl _, 0, by omega, rfl, rfl⟩ ?_
  rintro m _ _ ⟨j, hj, rfl, rfl⟩
  (repeat refine ja0 ?_); refine rgx [0, 1, 4, 5] ?_
  (repeat refine ja0 ?_); refine ifx ?_ ?_
  · intro hc; (try simp only [hcs, ne_eq] at hc)
    have e1 : (j : Int) % 256 = (j : Int) := by omega
    have e2 : ([ji4 (D.v (Value.int IntKind.u8 (j : Int)))] : List UInt8) = [UInt8.ofNat j] := by simp [ji4]
    (repeat refine ja0 ?_); refine jb3 ?_
    (repeat refine ja0 ?_); refine jb9 ?_
    (repeat refine ja0 ?_); refine rgx [0, 1, 3, 4] ?_
    have hX := And.intro e1 (e2)
    (repeat refine ja0 ?_); refine ka2 ?_; refine ji9 10 ?_; intro w0 A S0 f0; simp only [List.take, List.drop]; (repeat ((with_reducible show DR _ _ _ (_ :: _) _); first | (refine cx _ (envG _ _ _ _ _ _) rfl rfl rfl rfl rfl ?_ (hc := by first | exact jw8 (3 :: UInt8.ofNat j :: seed) (by simp only [List.length_cons]; omega)))  | (refine sx ?_))); refine jb4 ?_
    refine kc0 rfl rfl (fun _ _ _ _ => rfl) (fun _ _ _ _ => by simp only [jc1, implies_true, setD, bslF, je9, je1, List.zip_cons_cons, List.zip_nil_right, List.zip_nil_left, jc2, rng0, rng1, rng2, rng3, rng4, rng5, rng6, rng7, rng8, List.getD_cons_zero, List.getD_cons_succ, Nat.reduceLeDiff, decide_true, decide_false, List.all_cons, List.all_nil, dqF, nilF, jf9, jc5, Op.operands, Call.operands, evD, cD, gip, upd, look, List.map, List.map_cons, List.map_nil, binF, binI, shI, binS, unF, wD, kLo, kHi, kMod, jf8, jf5, jf6, je8, je7, je6, je5, lenF, lenD, je3, jd9, minF, je0, cutL, bndF, sub, nc, aggT, aggB, scB, tnth, elems, L_B, L_mk, List.getElem?_cons_zero, List.getElem?_cons_succ, reduceIte, reduceCtorEq, Option.isSome, List.toList_toArray, Nat.reduceAdd, Nat.reduceSub, Nat.reduceMul, Nat.reduceEqDiff, Nat.reduceLT, Nat.reduceBEq, mkF, mkG, Bool.and_true, Bool.true_and, Bool.and_false, Bool.false_and, beq_self_eq_true, mkC, Int.reduceToNat, Int.toNat_natCast, Int.reduceAdd, Int.reduceSub, Int.reduceMul, Nat.zero_add, Nat.add_zero, Nat.mul_one, and_true, true_and, Option.getD_some, Option.getD_none, ne_eq, not_true_eq_false, not_false_eq_true, decide_not, Bool.not_true, Bool.not_false, Int.reduceLT, Int.reduceLE, Int.reduceEq, Int.reduceNe, Int.reduceGT, Int.reduceGE, gt_iff_lt, ge_iff_le, Nat.reduceLT, Nat.reduceLeDiff, u32D, u8D, iD, bD, strD, ja6, jb1, ja5, ja3, ja4, ja2, ja1, jb2, jb0, Array.toList_append, List.cons_append, List.nil_append, hX]; exact rfl) rfl ?_ ?_ ?_
    · show ji5 seed j ++ [[iD (j : Int), strD (jl8 seed j)]] <+: _
      rw [kf4]; exact qh8 seed (by omega)
    · refine ji9 1 ?_; intro w0 A S0 f0; simp only [List.take, List.drop]; (repeat ((with_reducible show DR _ _ _ (_ :: _) _); first | (refine cx _ (envG _ _ _ _ _ _) rfl rfl rfl rfl rfl ?_ (hc := by first | exact jw8 (3 :: UInt8.ofNat j :: seed) (by simp only [List.length_cons]; omega)))  | (refine sx ?_))); refine jb4 ?_; refine jo6 [0, 1, 4, 18] (kl1 ?_)
      (repeat refine ja0 ?_); refine iffx ?_
      (repeat refine ja0 ?_); refine jb3 ?_
      have hK := And.intro (jw8 (3 :: UInt8.ofNat j :: seed) (by simp only [List.length_cons]; omega)) trivial; (repeat refine ja0 ?_); refine rgx [0, 1, 4] ?_
      exact ⟨_, m - 1, WeakX.refl _, by omega, j + 1, by omega, congrArg (·, true) (kf4 seed j), by simp [iD, strD]⟩
    · refine ji9 1 ?_; intro w0 A S0 f0; simp only [List.take, List.drop]; (repeat ((with_reducible show DR _ _ _ (_ :: _) _); first | (refine cx _ (envG _ _ _ _ _ _) rfl rfl rfl rfl rfl ?_ (hc := by first | exact jw8 (3 :: UInt8.ofNat j :: seed) (by simp only [List.length_cons]; omega)))  | (refine sx ?_))); refine jb4 ?_; refine jo6 [0, 1, 4, 18] (kl1 ?_)
      (repeat refine ja0 ?_); refine iftx ?_
      refine ja9 ?_
      exact ⟨.inr rfl, fun h => by cases h⟩
  · intro hc; (try simp only [hcs, ne_eq] at hc)
    obtain rfl : j = 68 := by omega
    (repeat refine ja0 ?_); refine je4 ?_
    exact ⟨.inl rfl, fun _ => rfl⟩
def nD (d : Nat) : D := .v (.int .i64 (d : Int))
def jo5 (n : Nat) : Nat → List Nat
  | 0 => []
  | k + 1 => jo5 n k ++ [n / 4 ^ k % 4]
theorem jl1 (n k : Nat) : (jo5 n k).length = k := by
  induction k with
  | zero => rfl
  | succ k ih => simp [jo5, ih]
theorem and3 (x : Nat) : ((x &&& 3 : Nat) : Int) = ((x % 4 : Nat) : Int) := by
  have : x &&& 3 = x % 2 ^ 2 := Nat.and_two_pow_sub_one_eq_mod x 2
  rw [this]
theorem shr2 (x : Nat) : (x : Int) / (2 : Int) ^ 2 = ((x / 4 : Nat) : Int) := by omega
set_option maxHeartbeats 2000000 in
theorem qm1 (n many : Nat) (hn : n ≤ 1000000) (hm : many ≤ 1000000) : PC (jb8 Tryd.prog) 158 [nD n, nD many] (.sl (jo5 n many) 0 nD) := by
  have hnD : ∀ d : Nat, nD d = .v (.int .i64 (d : Int)) := fun _ => rfl
  have hX := and_true; refine jb6 Tryd.func158 rfl Tryd.ntmps158 Tryd.results158 rfl (by simp only [jb5, Nat.reduceAdd, u32D, u8D, iD, bD, strD, ja6, jb1, ja5, ja3, ja4, ja2, ja1, jb2, jb0]; exact rfl) ?_; intro w0 A
  have hX := And.intro hnD (and_true)
  (repeat refine ja0 ?_); refine rgx [0, 1] ?_
  (repeat refine ja0 ?_); refine rgx [0, 1, 5] ?_
  (repeat refine ja0 ?_); refine rgx [0, 5, 6, 7] ?_
  (repeat refine ja0 ?_); refine jb9 ?_
  refine jk4 (fun _ _ _ _ => Weak.nil_own 5 3 1 rfl) ?_
  refine jf4 (fun m _ st => ∃ k, k + m = many ∧ st = mk [(0, nD (n / 4 ^ k)), (5, .own 0 k 3 1), (6, nD many), (7, nD k)] [some (.row ((jo5 n k).map nD) 3 1)]) many ⟨_, WeakX.pick [0, 5, 6, 7], 0, by omega, ?_⟩ ?_
  · rw [Nat.pow_zero, Nat.div_one]; rfl
  rintro m _ _ ⟨k, hk, rfl⟩
  (repeat refine ja0 ?_); refine rgx [0, 5, 6, 7, 8] ?_
  (repeat refine ja0 ?_); refine ifx ?_ ?_
  · intro hc
    have hkn : k < many := by have := of_decide_eq_true hc; omega
    have hl := jl1 n k
    have hd : n / 4 ^ k ≤ n := Nat.div_le_self _ _
    generalize hx : n / 4 ^ k = x at hd
    have e1 := and3 x
    have e2 := shr2 x
    (repeat refine ja0 ?_); refine jb3 ?_
    (repeat refine ja0 ?_); refine jb9 ?_
    have hX := And.intro hnD (And.intro hl (And.intro e1 (e2)))
    (repeat refine ja0 ?_); refine rgx [0, 5, 6, 7] ?_
    (repeat refine ja0 ?_); refine rgx [0, 5, 6, 7] ?_
    (repeat refine ja0 ?_); refine rgx [0, 5, 6, 7] ?_
    refine ⟨_, m - 1, WeakX.refl _, by omega, k + 1, by omega, ?_⟩
    subst hx
    simp [nD, jo5, Nat.pow_succ, Nat.div_div_eq_div_mul]
  · intro hc
    have hkn : k = many := by have := of_decide_eq_false hc; omega
    subst hkn
    refine je4 ?_
    (repeat refine ja0 ?_); refine rgx [4] ?_
    (repeat refine ja0 ?_); refine ja9 ?_; refine retx ?_; (try dsimp only [outV, ja8])
    refine jl0 rfl (by simp only [elems, List.getElem?_cons_zero]; exact rfl) (by simp [jl1]) ?_ (fun _ => rfl)
    rw [List.take_of_length_le (by simp [jl1])]
def digP (m : List UInt8) : Nat → List Nat
  | 0 => []
  | k + 1 => digP m k ++ jo5 (m.getD k 0).toNat 4
def jv1 (l : List Nat) : Nat → Nat
  | 0 => 0
  | k + 1 => jv1 l k + (3 - l.getD k 0)
def digS (text : List UInt8) : List Nat := digP (midS text) 16 ++ jo5 (jv1 (digP (midS text) 16) 64) 4
theorem kk7 (m : List UInt8) (k : Nat) : (digP m k).length = 4 * k := by
  induction k with
  | zero => rfl
  | succ k ih => simp [digP, ih, jl1]; omega
theorem kv8 (n k : Nat) : ∀ d ∈ jo5 n k, d ≤ 3 := by
  induction k with
  | zero => intro d hd; cases hd
  | succ k ih =>
    intro d hd
    simp only [jo5, List.mem_append, List.mem_cons, List.not_mem_nil, or_false] at hd
    rcases hd with h | h
    · exact ih d h
    · omega
theorem ql3 (m : List UInt8) (k : Nat) : ∀ d ∈ digP m k, d ≤ 3 := by
  induction k with
  | zero => intro d hd; cases hd
  | succ k ih =>
    intro d hd
    simp only [digP, List.mem_append] at hd
    rcases hd with h | h
    · exact ih d h
    · exact kv8 _ _ d h
theorem qo3 {l : List Nat} {b : Nat} (h : ∀ d ∈ l, d ≤ b) (k : Nat) : l.getD k 0 ≤ b := by
  rw [List.getD_eq_getElem?_getD]
  cases hk : l[k]? with
  | none => simp
  | some d => simpa using h d (List.mem_of_getElem? hk)
theorem qd0 (l : List Nat) (k : Nat) : jv1 l k ≤ 3 * k := by
  induction k with
  | zero => simp [jv1]
  | succ k ih => unfold jv1; omega
theorem qb4 (text : List UInt8) : (digS text).length = 68 := by simp [digS, kk7, jl1]
theorem vn8 (text : List UInt8) : ∀ d ∈ digS text, d ≤ 3 := by
  intro d hd
  simp only [digS, List.mem_append] at hd
  rcases hd with h | h
  · exact ql3 _ _ d h
  · exact kv8 _ _ d h
set_option maxHeartbeats 4000000 in
theorem qb8 (text : List UInt8) (ht : text.length ≤ 1000000) : PC (jb8 Tryd.prog) 125 [strD text] (.sl (digS text) 0 nD) := by
  have hnD : ∀ d : Nat, nD d = .v (.int .i64 (d : Int)) := fun _ => rfl
  have hml := jx8 text
  unfold digS
  have hX := and_true; refine jb6 Tryd.func125 rfl Tryd.ntmps125 Tryd.results125 rfl (by simp only [jb5, Nat.reduceAdd, u32D, u8D, iD, bD, strD, ja6, jb1, ja5, ja3, ja4, ja2, ja1, jb2, jb0]; exact rfl) ?_; intro w0 A
  have hX := And.intro hnD (hml)
  have hK := And.intro (jw8 text (by omega)) trivial; (repeat refine ja0 ?_); refine rgx [0] ?_
  (repeat refine ja0 ?_); refine rgx [0, 3] ?_
  (repeat refine ja0 ?_); refine rgx [3, 4] ?_
  generalize midS text = m at hml ⊢
  have hX := And.intro hnD (hml)
  (repeat refine ja0 ?_); refine rgx [3, 4, 12, 13] ?_
  (repeat refine ja0 ?_); refine jb9 ?_
  refine jk4 (fun _ _ _ _ => Weak.nil_own 3 3 1 rfl) ?_
  refine jf4 (fun j _ st => ∃ k, k + j = 16 ∧ st = mk [(3, .own 0 (4 * k) 3 1), (4, strD m), (12, nD 16), (13, nD k)] [some (.row ((digP m k).map nD) 3 1)]) 16 ⟨_, WeakX.pick [3, 4, 12, 13], 0, by omega, ?_⟩ ?_
  · rfl
  rintro j _ _ ⟨k, hk, rfl⟩
  (repeat refine ja0 ?_); refine rgx [3, 4, 12, 13, 14] ?_
  (repeat refine ja0 ?_); refine ifx ?_ ?_
  · intro hc
    have hkn : k < 16 := by have := of_decide_eq_true hc; omega
    have hl := kk7 m k
    generalize hx : (m.getD k 0).toNat = x
    have hxl : x < 256 := by rw [← hx]; exact UInt8.toNat_lt _
    (repeat refine ja0 ?_); refine jb3 ?_
    (repeat refine ja0 ?_); refine jb9 ?_
    have h4 := jl1 x 4
    have hX := And.intro hnD (And.intro hl (And.intro hx (And.intro hml (h4))))
    have hK := And.intro (qm1 x 4 (by omega) (by omega)) trivial; (repeat refine ja0 ?_); refine rgx [3, 4, 5, 12, 13] ?_
    (repeat refine ja0 ?_); refine rgx [3, 4, 12, 13] ?_
    (repeat refine ja0 ?_); refine rgx [3, 4, 12, 13] ?_
    refine ⟨_, j - 1, WeakX.refl _, by omega, k + 1, by omega, ?_⟩
    subst hx
    simp [nD, digP, Nat.mul_add, strD, jl1]
  · intro hc
    have hkn : k = 16 := by have := of_decide_eq_false hc; omega
    subst hkn
    refine je4 ?_
    have hl := kk7 m 16
    have hlt := ql3 m 16
    generalize digP m 16 = l at hl hlt ⊢
    have hX := And.intro hnD (hl)
    (repeat refine ja0 ?_); refine rgx [3, 6] ?_
    (repeat refine ja0 ?_); refine rgx [3, 6, 24, 25, 26] ?_
    clear hc
    (repeat refine ja0 ?_); refine jb9 ?_
    refine jf4 (fun j _ st => ∃ k, k + j = 64 ∧ st = mk [(3, .own 0 64 3 1), (6, nD (jv1 l k)), (24, .own 0 64 3 1), (25, nD 64), (26, nD k)] [some (.row (l.map nD) 3 1)]) 64 ⟨_, WeakX.refl _, 0, by omega, rfl⟩ ?_
    clear hk j
    rintro j _ _ ⟨k, hk, rfl⟩
    (repeat refine ja0 ?_); refine rgx [3, 6, 24, 25, 26, 27] ?_
    (repeat refine ja0 ?_); refine ifx ?_ ?_
    · intro hc
      have hkn : k < 64 := by have := of_decide_eq_true hc; omega
      (repeat refine ja0 ?_); refine jb3 ?_
      (repeat refine ja0 ?_); refine jb9 ?_
      have hdl := qo3 hlt k
      have hll := qd0 l k
      generalize hx : l.getD k 0 = x at hdl
      have hget : (l.map nD).getD k .dead = .v (.int .i64 (x : Int)) := by
        have hk' : k < l.length := by omega
        rw [← hx]
        simp [List.getD_eq_getElem?_getD, hk', nD]
      have e3 : (3 : Int) - (x : Int) = ((3 - x : Nat) : Int) := by omega
      have hX := And.intro hnD (And.intro hl (And.intro hget (And.intro Nat.div_one (And.intro Nat.mod_one (e3)))))
      (repeat refine ja0 ?_); refine rgx [3, 6, 8, 24, 25, 26] ?_
      (repeat refine ja0 ?_); refine rgx [3, 6, 24, 25, 26] ?_
      (repeat refine ja0 ?_); refine rgx [3, 6, 24, 25, 26] ?_
      refine ⟨_, j - 1, WeakX.refl _, by omega, k + 1, by omega, ?_⟩
      subst hx
      simp [nD, jv1]
    · intro hc
      have hkn : k = 64 := by have := of_decide_eq_false hc; omega
      subst hkn
      have hll := qd0 l 64
      have h4 := jl1 (jv1 l 64) 4
      refine je4 ?_
      have hX := And.intro hnD (And.intro hl (h4))
      have hK := And.intro (qm1 (jv1 l 64) 4 (by omega) (by omega)) trivial; (repeat refine ja0 ?_); refine rgx [2] ?_
      (repeat refine ja0 ?_); refine ja9 ?_; refine retx ?_; (try dsimp only [outV, ja8])
      refine jl0 rfl (by simp only [elems, List.getElem?_cons_zero]; exact rfl) (by simp [hl, h4]) ?_ (fun _ => rfl)
      rw [List.take_of_length_le (by simp [hl, h4])]
      simp
def sigN (seed : List UInt8) (d : Nat → Nat) : Nat → List UInt8
  | 0 => []
  | k + 1 => sigN seed d k ++ onS (jl8 seed k) (d k)
theorem jq1 (seed : List UInt8) (j : Nat) : (jl8 seed j).length = 16 := jx8 _
theorem jn5 (seed : List UInt8) (d : Nat → Nat) (k : Nat) : (sigN seed d k).length = 16 * k := by
  induction k with
  | zero => rfl
  | succ k ih => simp [sigN, ih, ka4 _ _ (jq1 _ _)]; omega
def jv8 (seed : List UInt8) : List UInt8 := sumP (4 :: sigN seed (fun _ => 3) 68)
theorem jz8 (seed : List UInt8) (k : Nat) : (ji5 seed k).length = k := by simp [ji5]
theorem ko5 {seed : List UInt8} {pre : List (List D)} {x : List D} {m : Nat} (h : pre ++ [x] <+: ji5 seed m) : pre.length < m ∧ x = [iD (pre.length : Int), strD (jl8 seed pre.length)] := by
  have hl := h.length_le
  rw [jz8] at hl
  simp at hl
  refine ⟨by omega, ?_⟩
  have h1 := h.getElem (i := pre.length) (by simp)
  rw [List.getElem_append_right (by omega)] at h1
  simp only [Nat.sub_self, List.getElem_singleton] at h1
  rw [h1]
  simp [ji5]
theorem kn0 : jc1 4 = .v (.int .u8 4) := rfl
set_option maxHeartbeats 4000000 in
theorem kd4 (seed : List UInt8) (hs : seed.length ≤ 1000000) : PC (jb8 Tryd.prog) 109 [strD seed] (jg4 (jv8 seed)) := by
  have hX := and_true; refine jb6 Tryd.func109 rfl Tryd.ntmps109 Tryd.results109 rfl (by simp only [jb5, Nat.reduceAdd, u32D, u8D, iD, bD, strD, ja6, jb1, ja5, ja3, ja4, ja2, ja1, jb2, jb0]; exact rfl) ?_; intro w0 A
  (repeat refine ja0 ?_); refine rgx [0, 2] ?_
  (repeat refine ja0 ?_); refine jc4 [0, 2, 3] ?_; intro w0 A S0 f0; refine ex rfl (jw3 rfl rfl rfl rfl rfl) ?_; (repeat ((with_reducible show DR _ _ _ (_ :: _) _); first | (refine cx _ (envG _ _ _ _ _ _) rfl rfl rfl rfl rfl ?_ (hc := by first | fail))  | (refine sx ?_))); refine jb4 ?_; refine kl1 ?_
  have hK := And.intro (qa2 seed) trivial; (repeat refine ja0 ?_); refine rgx [2, 3, 9] ?_
  (repeat refine ja0 ?_); refine jb9 ?_
  refine ju4 (items := ji5 seed 68) [0, 2] [2, 3] (fun pre => [some (.one (.arr .u8 32 fun _ => 0)), some (.row ((4 :: sigN seed (fun _ => 3) pre.length).map jc1) 5 1), some (.one (.own 1 (1 + 16 * pre.length) 5 1))]) (fun _ _ => False)
    (ql6 seed hs) (by kernel_rfl) rfl (fun _ _ _ _ => rfl) rfl rfl rfl rfl rfl (fun x hx => ?_) (fun M L pre x hx => ?_) ?_ (fun _ _ h => h.elim)
  · simp only [ji5, List.mem_map] at hx; obtain ⟨j, _, rfl⟩ := hx; rfl
  · obtain ⟨hj, rfl⟩ := ko5 hx
    have hl := jn5 seed (fun _ => 3) pre.length
    have hol := ka4 (jl8 seed pre.length) 3 (jq1 _ _)
    refine jw5 [3, 11] ?_
    (repeat refine ja0 ?_); refine rgx [3, 5] ?_
    intro M2
    (repeat refine ja0 ?_); refine jb9 ?_
    have hX := And.intro hl (hol)
    have hK := And.intro (on_c (jl8 seed pre.length) 3 (by rw [jq1]; omega) (by omega)) trivial; (repeat refine ja0 ?_); refine rtx 3 [] ?_
    exact .inl ⟨rfl, _, WeakX.refl _, by simp [sigN, hol, Nat.mul_add, kn0, Nat.add_assoc, mk]⟩
  · have hl := jn5 seed (fun _ => 3) 68
    rw [jz8]
    have hX := And.intro hl (and_true)
    (repeat refine ja0 ?_); refine jc4 [2] ?_; intro w0 A S0 f0; (repeat ((with_reducible show DR _ _ _ (_ :: _) _); first | (refine cx _ (envG _ _ _ _ _ _) rfl rfl rfl rfl rfl ?_ (hc := by first | exact kj1 (4 :: sigN seed (fun _ => 3) 68) (by rw [List.length_cons, hl]; omega)))  | (refine sx ?_))); refine jb4 ?_; refine kl1 ?_
    (repeat refine ja0 ?_); refine ja9 ?_; refine retx ?_; (try dsimp only [outV, ja8])
    exact ja7 rfl
def digA (text : List UInt8) (k : Nat) : Nat := (digS text).getD k 0
def jo2 (seed text : List UInt8) : List UInt8 := sigN seed (digA text) 68
theorem kq8 (text : List UInt8) (k : Nat) : digA text k ≤ 3 := qo3 (vn8 text) k
set_option maxHeartbeats 4000000 in
theorem vt1 (seed text : List UInt8) (hs : seed.length ≤ 1000000) (ht : text.length ≤ 1000000) : PC (jb8 Tryd.prog) 150 [strD seed, strD text] (strD (jo2 seed text)) := by
  have hX := and_true; refine jb6 Tryd.func150 rfl Tryd.ntmps150 Tryd.results150 rfl (by simp only [jb5, Nat.reduceAdd, u32D, u8D, iD, bD, strD, ja6, jb1, ja5, ja3, ja4, ja2, ja1, jb2, jb0]; exact rfl) ?_; intro w0 A
  (repeat refine ja0 ?_); refine rgx [0, 1] ?_
  have hK := And.intro (qb8 text ht) trivial; (repeat refine ja0 ?_); refine rgx [0, 5] ?_
  (repeat refine ja0 ?_); refine rgx [0, 5, 6] ?_
  have hK := And.intro (qa2 seed) trivial; (repeat refine ja0 ?_); refine rgx [5, 6, 12] ?_
  (repeat refine ja0 ?_); refine jb9 ?_
  refine jk4 (fun _ _ _ _ => Weak.nil_ownB 1 5 1 rfl) ?_
  refine ju4 (items := ji5 seed 68) [0, 1] [5, 6] (fun pre => [some (.one (.sl (digS text) 0 nD)), some (.one (.own 2 (16 * pre.length) 5 1)), some (.row ((sigN seed (digA text) pre.length).map jc1) 5 1)]) (fun _ _ => False)
    (ql6 seed hs) (by kernel_rfl) rfl (fun _ _ _ _ => rfl) rfl rfl rfl rfl rfl (fun x hx => ?_) (fun M L pre x hx => ?_) ?_ (fun _ _ h => h.elim)
  · simp only [ji5, List.mem_map] at hx; obtain ⟨j, _, rfl⟩ := hx; rfl
  · obtain ⟨hj, rfl⟩ := ko5 hx
    have hl := jn5 seed (digA text) pre.length
    have hdl := qb4 text
    have hda := kq8 text pre.length
    have hol := ka4 (jl8 seed pre.length) (digA text pre.length) (jq1 _ _)
    have hde : (digS text).getD pre.length 0 = digA text pre.length := rfl
    have hnD : ∀ d : Nat, nD d = .v (.int .i64 (d : Int)) := fun _ => rfl
    refine jw5 [5, 6, 13, 14] ?_
    (repeat refine ja0 ?_); refine rgx [5, 6, 7, 14] ?_
    (repeat refine ja0 ?_); refine rgx [5, 6, 7, 8] ?_
    intro M2
    (repeat refine ja0 ?_); refine jb9 ?_
    have hX := And.intro hl (And.intro hol (And.intro hdl (And.intro hde (hnD))))
    have hK := And.intro (on_c (jl8 seed pre.length) (digA text pre.length) (by rw [jq1]; omega) (by omega)) trivial; (repeat refine ja0 ?_); refine rtx 7 [] ?_
    exact .inl ⟨rfl, _, WeakX.refl _, by simp [sigN, hol, Nat.mul_add, mk]⟩
  · have hl := jn5 seed (digA text) 68
    rw [jz8]
    have hX := And.intro hl (and_true)
    (repeat refine ja0 ?_); refine rgx [4] ?_
    (repeat refine ja0 ?_); refine ja9 ?_; refine retx ?_; (try dsimp only [outV, ja8])
    exact ja7 rfl




def recN (sig : List UInt8) (d : Nat → Nat) : Nat → List UInt8
  | 0 => []
  | k + 1 => recN sig d k ++ onS ((sig.drop (16 * k)).take 16) (3 - d k)
theorem kt6 {sig : List UInt8} {k : Nat} (h : 16 * k + 16 ≤ sig.length) : ((sig.drop (16 * k)).take 16).length = 16 := by simp; omega
theorem qg5 (sig : List UInt8) (d : Nat → Nat) (k : Nat) (h : 16 * k ≤ sig.length) : (recN sig d k).length = 16 * k := by
  induction k with
  | zero => rfl
  | succ k ih => simp only [recN, List.length_append]; rw [ih (by omega), ka4 _ _ (kt6 (by omega))]; omega
def recS (text sig : List UInt8) : List UInt8 := sumP (4 :: recN sig (digA text) 68)
def recD (text sig : List UInt8) : D := .tup (.cons (if sig.length = 1088 then jg4 (recS text sig) else .arr .u8 32 (fun _ => 0)) (.cons (iD (if sig.length = 1088 then 0 else 2)) .nil))
set_option maxHeartbeats 8000000 in
theorem qs2 (text sig : List UInt8) (ht : text.length ≤ 1000000) : PC (jb8 Tryd.prog) 77 [strD text, strD sig] (recD text sig) := by
  have hnD : ∀ d : Nat, nD d = .v (.int .i64 (d : Int)) := fun _ => rfl
  have hdl := qb4 text
  unfold recD
  have hX := and_true; refine jb6 Tryd.func77 rfl Tryd.ntmps77 Tryd.results77 rfl (by simp only [jb5, Nat.reduceAdd, u32D, u8D, iD, bD, strD, ja6, jb1, ja5, ja3, ja4, ja2, ja1, jb2, jb0]; exact rfl) ?_; intro w0 A
  (repeat refine ja0 ?_); refine rgx [0, 1, 4] ?_
  (repeat refine ja0 ?_); refine rgx [0, 1, 4, 11] ?_
  (repeat refine ja0 ?_); refine ifx ?_ ?_
  · intro hc; (try simp only [hcs, ne_eq] at hc)
    rw [if_neg (by omega), if_neg (by omega)]
    (repeat refine ja0 ?_); refine rgx [4, 5] ?_
    (repeat refine ja0 ?_); refine ja9 ?_; refine retx ?_; (try dsimp only [outV, ja8])
    exact ja7 rfl
  · intro hc; (try simp only [hcs, ne_eq] at hc)
    have hsl : sig.length = 1088 := by omega
    rw [if_pos hsl, if_pos hsl]
    (repeat refine ja0 ?_); refine jb3 ?_
    (repeat refine ja0 ?_); refine jc4 [0, 1, 4, 6] ?_; intro w0 A S0 f0; refine ex rfl (jw3 rfl rfl rfl rfl rfl) ?_; (repeat ((with_reducible show DR _ _ _ (_ :: _) _); first | (refine cx _ (envG _ _ _ _ _ _) rfl rfl rfl rfl rfl ?_ (hc := by first | fail))  | (refine sx ?_))); refine jb4 ?_; refine kl1 ?_
    have hX := And.intro hdl (and_true)
    have hK := And.intro (qb8 text ht) trivial; (repeat refine ja0 ?_); refine rgx [1, 4, 6, 16, 17, 18] ?_
    (repeat refine ja0 ?_); refine jb9 ?_
    (repeat refine ja0 ?_); refine jf4 (fun m _ st => ∃ k, k + m = 68 ∧ st = mk [(1, strD (sig.drop (16 * k))), (4, .ptr 0 0), (6, .own 1 (1 + 16 * k) 5 1), (16, .sl (digS text) 0 nD), (17, nD 68), (18, nD k)] [some (.one (.arr .u8 32 fun _ => 0)), some (.row ((4 :: recN sig (digA text) k).map jc1) 5 1)]) 68 ⟨_, WeakX.refl _, 0, by omega, rfl⟩ ?_
    rintro m _ _ ⟨k, hk, rfl⟩
    have hX := And.intro hdl (hnD)
    (repeat refine ja0 ?_); refine rgx [1, 4, 6, 16, 17, 18, 19] ?_
    (repeat refine ja0 ?_); refine ifx ?_ ?_
    · intro hc; (try simp only [hcs, ne_eq] at hc)
      have hl := qg5 sig (digA text) k (by omega)
      have hda := kq8 text k
      have hpl := kt6 (sig := sig) (k := k) (by omega)
      have hol := ka4 ((sig.drop (16 * k)).take 16) (3 - digA text k) hpl
      have hde : (digS text).getD k 0 = digA text k := rfl
      have hdrl : (sig.drop (16 * k)).length = 1088 - 16 * k := by rw [List.length_drop, hsl]
      have e3 : (3 : Int) - (digA text k : Int) = ((3 - digA text k : Nat) : Int) := by omega
      (repeat refine ja0 ?_); refine jb3 ?_
      (repeat refine ja0 ?_); refine jb9 ?_
      have hX := And.intro hdl (And.intro hde (hnD))
      (repeat refine ja0 ?_); refine rgx [1, 4, 6, 8, 16, 17, 18] ?_
      have hX := And.intro hdl (And.intro hl (And.intro hol (And.intro hnD (And.intro e3 (hdrl)))))
      have hK := And.intro (on_c ((sig.drop (16 * k)).take 16) (3 - digA text k) (by omega) (by omega)) trivial; (repeat refine ja0 ?_); refine rgx [1, 4, 6, 16, 17, 18] ?_
      (repeat refine ja0 ?_); refine rgx [1, 4, 6, 16, 17, 18] ?_
      (repeat refine ja0 ?_); refine rgx [1, 4, 6, 16, 17, 18] ?_
      refine ⟨_, m - 1, WeakX.refl _, by omega, k + 1, by omega, ?_⟩
      simp [nD, strD, recN, Nat.mul_add, Nat.add_assoc, hol, kn0]
    · intro hc; (try simp only [hcs, ne_eq] at hc)
      obtain rfl : k = 68 := by omega
      have hl := qg5 sig (digA text) 68 (by omega)
      (repeat refine ja0 ?_); refine je4 ?_
      have hX := And.intro hl (and_true)
      have hK := And.intro (kj1 (4 :: recN sig (digA text) 68) (by rw [List.length_cons, hl]; omega)) trivial; (repeat refine ja0 ?_); refine rgx [4, 5] ?_
      (repeat refine ja0 ?_); refine ja9 ?_; refine retx ?_; (try dsimp only [outV, ja8])
      exact ja7 rfl


end Go.Proofs.YtcdnpmpjeeiapaaDoor
