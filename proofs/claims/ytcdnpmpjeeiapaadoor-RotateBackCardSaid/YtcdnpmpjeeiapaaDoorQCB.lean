/- A number's bytes, put behind others, and alone. A number is read from bytes. (Written by gen_ce.py.) Numbers, as the document says. (Written by gen_cf.py.) -/
import Derived.Test.YtcdnpmpjeeiapaaDoorQPD
import Derived.Test.YtcdnpmpjeeiapaaDoorQCA
import Derived.Test.YtcdnpmpjeeiapaaDoorQPH
set_option linter.unusedSimpArgs false
set_option linter.unusedVariables false
set_option maxRecDepth 10000
namespace Go.Proofs.YtcdnpmpjeeiapaaDoor
open Go.RowKit
def qD (n : Nat) : D := .v (.int .u64 (n : Int))
theorem jd5 (n : Nat) : qD n = .v (.int .u64 (n : Int)) := rfl
theorem ky1 {n : Nat} (h : n < 256) : jc1 (UInt8.ofNat n) = .v (.int .u8 (n : Int)) := by unfold jc1; rw [u8n h]
theorem vg7 (n : Nat) : ((n : Int) % 256).toNat ||| 128 = n % 128 + 128 := by
  have h : ∀ x : Nat, x < 256 → x ||| 128 = x % 128 + 128 := by decide
  have h1 := h (n % 256) (Nat.mod_lt _ (by omega))
  have h2 : ((n : Int) % 256).toNat = n % 256 := by omega
  rw [h2, h1]
  omega
theorem ku7 : ∀ k n, (varF k n).length ≤ k + 1
  | 0, n => by simp [varF]
  | k + 1, n => by
    rw [varF]
    split
    · simp
    · have := ku7 k (n / 128)
      simp only [List.length_cons]; omega
theorem jh3 (n : Nat) : (varN n).length ≤ 11 := ku7 10 n
set_option maxHeartbeats 4000000 in
theorem vh1 (n : Nat) (hn : n < 18446744073709551616) : PH (jb8 Tryd.prog) 113 [.v (.slice none 0 0), qD n] [] (.own 0 (varN n).length 5 1) [some (.row ((varN n).map jc1) 5 1)] := by
  have hX := and_true; refine ky7 Tryd.func113 rfl Tryd.ntmps113 Tryd.results113 rfl (by simp only [jb5, Nat.reduceAdd, u32D, u8D, iD, bD, strD, ja6, jb1, ja5, ja3, ja4, ja2, ja1, jb2, jb0]; exact rfl) ?_; intro w0 A
  have hX := And.intro jd5 (and_true)
  (repeat refine ja0 ?_); refine rgx [0, 1] ?_
  (repeat refine ja0 ?_); refine jb9 ?_
  refine jk4 (fun _ _ _ _ => Weak.nil_own 0 5 1 rfl) ?_
  refine jf4 (fun m _ st => ∃ pre, pre ++ varN m = varN n ∧ m ≤ n ∧ st = mk [(0, .own 0 pre.length 5 1), (1, qD m)] [some (.row (pre.map jc1) 5 1)]) n ⟨_, WeakX.pick [0, 1], [], rfl, Nat.le_refl _, rfl⟩ ?_
  rintro m _ _ ⟨pre, hp, hmn, rfl⟩
  have hpl : pre.length ≤ 11 := by have := congrArg List.length hp; rw [List.length_append] at this; have := jh3 n; omega
  have hX := And.intro jd5 (and_true)
  (repeat refine ja0 ?_); refine rgx [0, 1, 6] ?_
  (repeat refine ja0 ?_); refine ifx ?_ ?_
  · intro hc; (try simp only [hcs, ne_eq] at hc)
    have e1 := vg7 m
    have e2 : (m : Int) / (2 : Int) ^ 7 = ((m / 128 : Nat) : Int) := by omega
    have hv := ki5 (n := m) (by omega) (by omega)
    have eb := ky1 (n := m % 128 + 128) (by omega)
    (repeat refine ja0 ?_); refine jb3 ?_
    (repeat refine ja0 ?_); refine jb9 ?_
    have hX := And.intro jd5 (And.intro e1 (e2))
    (repeat refine ja0 ?_); refine rgx [0, 1] ?_
    (repeat refine ja0 ?_); refine rgx [0, 1] ?_
    refine ⟨_, m / 128, WeakX.refl _, by omega, pre ++ [UInt8.ofNat (m % 128 + 128)], by rw [List.append_assoc]; simp only [List.cons_append, List.nil_append]; rw [← hv, hp], by omega, ?_⟩
    rw [List.map_append, List.map_cons, List.map_nil, eb, List.length_append]
    first | rfl | simp [qD]
  · intro hc; (try simp only [hcs, ne_eq] at hc)
    have hv := kb8 (n := m) (by omega)
    have eb := ky1 (n := m) (by omega)
    have e1 : (m : Int) % 256 = (m : Int) := by omega
    (repeat refine ja0 ?_); refine je4 ?_
    have hX := And.intro jd5 (e1)
    (repeat refine ja0 ?_); refine rgx [4] ?_
    (repeat refine ja0 ?_); refine ja9 ?_; refine retx ?_; (try dsimp only [outV, ja8])
    rw [← hp, hv, List.map_append, List.map_cons, List.map_nil, eb, List.length_append]
    exact FinH.refl
set_option maxHeartbeats 4000000 in
theorem vr7 (L : List UInt8) (n : Nat) (hn : n < 18446744073709551616) (hL : L.length ≤ 100000000) (h0 : 0 < L.length) : PHn (jb8 Tryd.prog) 113 [.own 0 L.length 5 1, qD n] [some (.row (L.map jc1) 5 1)] (.own 0 (L ++ varN n).length 5 1) [some (.row ((L ++ varN n).map jc1) 5 1)] := by
  have hX := and_true; refine qt5 Tryd.func113 rfl Tryd.ntmps113 Tryd.results113 rfl (by simp only [jb5, Nat.reduceAdd, u32D, u8D, iD, bD, strD, ja6, jb1, ja5, ja3, ja4, ja2, ja1, jb2, jb0]; exact rfl) ?_; intro w0 A bs0
  have hX := And.intro jd5 (and_true)
  (repeat refine ja0 ?_); refine rgx [0, 1] ?_
  (repeat refine ja0 ?_); refine jb9 ?_
  refine jf4 (fun m _ st => ∃ pre, pre ++ varN m = varN n ∧ m ≤ n ∧ st = mk [(0, .own 0 (L ++ pre).length 5 1), (1, qD m)] [some (.row ((L ++ pre).map jc1) 5 1)]) n ⟨_, WeakX.refl _, [], rfl, Nat.le_refl _, by rw [List.append_nil]; rfl⟩ ?_
  rintro m _ _ ⟨pre, hp, hmn, rfl⟩
  have hpl : pre.length ≤ 11 := by have := congrArg List.length hp; rw [List.length_append] at this; have := jh3 n; omega
  have hpL : (L ++ pre).length = L.length + pre.length := List.length_append
  have hX := And.intro jd5 (and_true)
  (repeat refine ja0 ?_); refine rgx [0, 1, 6] ?_
  (repeat refine ja0 ?_); refine ifx ?_ ?_
  · intro hc; (try simp only [hcs, ne_eq] at hc)
    have e1 := vg7 m
    have e2 : (m : Int) / (2 : Int) ^ 7 = ((m / 128 : Nat) : Int) := by omega
    have hv := ki5 (n := m) (by omega) (by omega)
    have eb := ky1 (n := m % 128 + 128) (by omega)
    (repeat refine ja0 ?_); refine jb3 ?_
    (repeat refine ja0 ?_); refine jb9 ?_
    have hX := And.intro jd5 (And.intro e1 (e2))
    (repeat refine ja0 ?_); refine rgx [0, 1] ?_
    (repeat refine ja0 ?_); refine rgx [0, 1] ?_
    refine ⟨_, m / 128, WeakX.refl _, by omega, pre ++ [UInt8.ofNat (m % 128 + 128)], by rw [List.append_assoc]; simp only [List.cons_append, List.nil_append]; rw [← hv, hp], by omega, ?_⟩
    have e6 : (L ++ (pre ++ [UInt8.ofNat (m % 128 + 128)])).length = (L ++ pre).length + 1 := by simp only [List.length_append, List.length_singleton]; omega
    have e7 : (L ++ (pre ++ [UInt8.ofNat (m % 128 + 128)])).map jc1 = (L ++ pre).map jc1 ++ [.v (.int .u8 ((m % 128 + 128 : Nat) : Int))] := by rw [← eb]; simp
    rw [e6, e7]
    first | rfl | simp [qD]
  · intro hc; (try simp only [hcs, ne_eq] at hc)
    have hv := kb8 (n := m) (by omega)
    have eb := ky1 (n := m) (by omega)
    have e1 : (m : Int) % 256 = (m : Int) := by omega
    (repeat refine ja0 ?_); refine je4 ?_
    have hX := And.intro jd5 (e1)
    (repeat refine ja0 ?_); refine rgx [4] ?_
    (repeat refine ja0 ?_); refine ja9 ?_; refine retx ?_; (try dsimp only [outV, ja8])
    have e6 : (L ++ (pre ++ [UInt8.ofNat m])).length = (L ++ pre).length + 1 := by simp only [List.length_append, List.length_singleton]; omega
    have e7 : (L ++ (pre ++ [UInt8.ofNat m])).map jc1 = (L ++ pre).map jc1 ++ [.v (.int .u8 (m : Int))] := by rw [← eb]; simp
    rw [← hp, hv, e6, e7]
    exact FinH.refl
def numS (n : Nat) : List UInt8 := if 281474976710656 < n then [] else varN n
def numE (n : Nat) : Int := if 281474976710656 < n then 1 else 0
def teD (t : List UInt8) (e : Int) : D := .tup (.cons (strD t) (.cons (iD e) .nil))
theorem jj6 (t : List UInt8) (e : Int) : teD t e = .tup (.cons (.v (.string (B t))) (.cons (.v (.int .i64 e)) .nil)) := rfl
set_option maxHeartbeats 4000000 in
theorem vu9 (n : Nat) (hn : n < 18446744073709551616) : PC (jb8 Tryd.prog) 61 [qD n] (teD (numS n) (numE n)) := by
  have kp := vh1 n hn
  unfold numS numE
  by_cases h : 281474976710656 < n
  · rw [if_pos h, if_pos h]
    have d0 : decide ((281474976710656 : Int) < (n : Int)) = true := decide_eq_true (by omega)
    have hX := and_true; refine jb6 Tryd.func61 rfl Tryd.ntmps61 Tryd.results61 rfl (by simp only [jb5, Nat.reduceAdd, u32D, u8D, iD, bD, strD, ja6, jb1, ja5, ja3, ja4, ja2, ja1, jb2, jb0]; exact rfl) ?_; intro w0 A
    have hX := And.intro jd5 (d0)
    (repeat refine ja0 ?_); refine rgx [0] ?_
    (repeat refine ja0 ?_); refine rgx [0, 5] ?_
    (repeat refine ja0 ?_); refine iftx ?_
    (repeat refine ja0 ?_); refine rgx [2, 3] ?_
    (repeat refine ja0 ?_); refine ja9 ?_; refine retx ?_; (try dsimp only [outV, ja8])
    exact ja7 rfl
  · rw [if_neg h, if_neg h]
    have d0 : decide ((281474976710656 : Int) < (n : Int)) = false := decide_eq_false (by omega)
    have hl := kz0 (n := n) (by omega)
    generalize varN n = v at *
    have hX := and_true; refine jb6 Tryd.func61 rfl Tryd.ntmps61 Tryd.results61 rfl (by simp only [jb5, Nat.reduceAdd, u32D, u8D, iD, bD, strD, ja6, jb1, ja5, ja3, ja4, ja2, ja1, jb2, jb0]; exact rfl) ?_; intro w0 A
    have hX := And.intro jd5 (d0)
    (repeat refine ja0 ?_); refine rgx [0] ?_
    (repeat refine ja0 ?_); refine rgx [0, 5] ?_
    (repeat refine ja0 ?_); refine iffx ?_
    (repeat refine ja0 ?_); refine jb3 ?_
    (repeat refine ja0 ?_); refine jc4 [2, 3] ?_; intro w0 A S0 f0
    iterate 1 ((with_reducible show DR _ _ _ (_ :: _) _); first | (refine cx _ (envG _ _ _ _ _ _) rfl rfl rfl rfl rfl ?_ (hc := by first | fail))  | (refine sx ?_))
    refine ex rfl (kb3 (envG _ _ _ _ _ _) rfl rfl rfl (hc := kp) (hx := by exact dsb)) ?_
    (repeat ((with_reducible show DR _ _ _ (_ :: _) _); first | (refine cx _ (envG _ _ _ _ _ _) rfl rfl rfl rfl rfl ?_ (hc := by first | fail))  | (refine sx ?_))); refine jb4 ?_; refine kl1 ?_
    (repeat refine ja0 ?_); refine ja9 ?_; refine retx ?_; (try dsimp only [outV, ja8])
    exact ja7 rfl
def gnD (r : Nat × Nat × Int) : D := .tup (.cons (qD r.1) (.cons (iD (r.2.1 : Int)) (.cons (iD r.2.2) .nil)))
theorem kq9 {k : Nat} (h : k ≤ 7) : 128 ^ k ≤ 562949953421312 := by
  have := Nat.pow_le_pow_right (n := 128) (by omega) h
  rwa [show (128 : Nat) ^ 7 = 562949953421312 by decide] at this
theorem ql1 {c k : Nat} (h : k ≤ 6) : c % 128 * 128 ^ k ≤ 127 * 4398046511104 := by
  have := Nat.pow_le_pow_right (n := 128) (by omega) h
  rw [show (128 : Nat) ^ 6 = 4398046511104 by decide] at this
  exact Nat.mul_le_mul (by omega) this
theorem qe2 {s : List UInt8} {k : Nat} (h : k ≤ 7) : decL (s.take k) < 562949953421312 := by
  have h1 := ki3 (s.take k)
  have h2 : (s.take k).length ≤ 7 := by rw [List.length_take]; omega
  exact Nat.lt_of_lt_of_le h1 (kq9 h2)
theorem vr0 (c : Nat) : c &&& 127 = c % 128 := Nat.and_two_pow_sub_one_eq_mod c 7
theorem shl7 (a k : Nat) : ((a : Nat) : Int) * 2 ^ (7 * (k : Int)).toNat = ((a * 128 ^ k : Nat) : Int) := by
  rw [show (7 * (k : Int)).toNat = 7 * k by omega, show (128 : Nat) ^ k = 2 ^ (7 * k) by rw [Nat.pow_mul]]
  simp
theorem qm2 {b : UInt8} : b = 0 ↔ b.toNat = 0 := ⟨fun h => by rw [h]; rfl, fun h => UInt8.toNat_inj.1 h⟩
theorem qm4 {s : List UInt8} {k : Nat} (hk : k < s.length) (h7 : k < 7) (he : k = endI s) : getS s = if (0 < k ∧ (s.getD k 0).toNat = 0) ∨ 281474976710656 < decL (s.take (k + 1)) then (0, 0, 6) else (decL (s.take (k + 1)), k + 1, 0) := by
  subst he
  unfold getS
  rw [if_pos ⟨hk, h7⟩]
  simp only [qm2]
theorem ks2 {s : List UInt8} (h : ¬ (endI s < s.length ∧ endI s < 7)) : getS s = if 7 ≤ s.length then (0, 0, 6) else (0, 0, 5) := by
  unfold getS
  rw [if_neg h]
set_option maxHeartbeats 8000000 in
theorem kl2 (s : List UInt8) : PC (jb8 Tryd.prog) 151 [strD s] (gnD (getS s)) := by
  have e0 : (if (7 : Int) < (s.length : Int) then (7 : Int) else (s.length : Int)) = ((min s.length 7 : Nat) : Int) := by split <;> omega
  have hel := kr9 s
  have h1 : min s.length 7 ≤ s.length := Nat.min_le_left _ _
  have h2 : min s.length 7 ≤ 7 := Nat.min_le_right _ _
  have h3 : min s.length 7 = s.length ∨ min s.length 7 = 7 := by omega
  generalize min s.length 7 = N at *
  have hX := and_true; refine jb6 Tryd.func151 rfl Tryd.ntmps151 Tryd.results151 rfl (by simp only [jb5, Nat.reduceAdd, u32D, u8D, iD, bD, strD, ja6, jb1, ja5, ja3, ja4, ja2, ja1, jb2, jb0]; exact rfl) ?_; intro w0 A
  have hX := And.intro e0 (and_true)
  (repeat refine ja0 ?_); refine rgx [0] ?_
  (repeat refine ja0 ?_); refine rgx [0, 5] ?_
  (repeat refine ja0 ?_); refine rgx [0, 5, 10, 11] ?_
  (repeat refine ja0 ?_); refine jb9 ?_
  (repeat refine ja0 ?_); refine jf4 (fun m _ st => ∃ k, k + m = N ∧ k ≤ endI s ∧ st = mk [(0, strD s), (5, qD (decL (s.take k))), (10, iD (N : Int)), (11, iD (k : Int))] []) N ⟨_, WeakX.refl _, 0, by omega, by omega, rfl⟩ ?_
  rintro m _ _ ⟨k, hk, hke, rfl⟩
  have hX := And.intro jd5 (and_true)
  (repeat refine ja0 ?_); refine rgx [0, 5, 10, 11, 12] ?_
  (repeat refine ja0 ?_); refine ifx ?_ ?_
  · intro hc; (try simp only [hcs, ne_eq] at hc)
    have hkN : k < N := by omega
    have hkn : k < s.length := by omega
    have hE := jy6 s k hkn hke
    have hst := kv1 hkn
    have hor := vn5 (s := s) (i := k) (by omega) ((s.getD k 0).toNat % 128)
    rw [← hst] at hor
    have hxl := qe2 (s := s) (k := k) (by omega)
    have hat := qm4 hkn (by omega : k < 7)
    have hcl := (s.getD k 0).toNat_lt
    have e1 := vr0 (s.getD k 0).toNat
    have e2 : (((s.getD k 0).toNat % 128 : Nat) : Int) % 18446744073709551616 = (((s.getD k 0).toNat % 128 : Nat) : Int) := by omega
    have e3 := shl7 ((s.getD k 0).toNat % 128) k
    have hw := ql1 (c := (s.getD k 0).toNat) (k := k) (by omega)
    generalize hw' : (s.getD k 0).toNat % 128 * 128 ^ k = w at *
    have e4 : (w : Int) % 18446744073709551616 = (w : Int) := by omega
    have hmod : (s.getD k 0).toNat % 128 < 128 := Nat.mod_lt _ (by omega)
    clear hw'
    generalize hcc : (s.getD k 0).toNat % 128 = c' at *
    (repeat refine ja0 ?_); refine jb3 ?_
    (repeat refine ja0 ?_); refine jb9 ?_
    have hX := And.intro jd5 (and_true)
    (repeat refine ja0 ?_); refine rgx [0, 5, 6, 10, 11] ?_
    (repeat refine ja0 ?_); refine rgx [0, 5, 6, 7, 10, 11] ?_
    clear hcc
    generalize decL (s.take k) = x at *
    generalize hy : decL (s.take (k + 1)) = y at *
    generalize (s.getD k 0).toNat = c at *
    have hX := And.intro jd5 (And.intro e1 (And.intro e2 (And.intro e3 (And.intro e4 (hor)))))
    (repeat refine ja0 ?_); refine rgx [0, 5, 6, 7, 10, 11] ?_
    (repeat refine ja0 ?_); refine jb9 ?_
    by_cases hend : k = endI s
    · rw [decide_eq_true hend] at hE
      have hc1 : c < 128 := of_decide_eq_true hE
      have d0 : decide ((128 : Int) ≤ (c : Int)) = false := decide_eq_false (by omega)
      rw [hat hend]
      have hX := And.intro jd5 (d0)
      (repeat refine ja0 ?_); refine rgx [0, 5, 6, 7, 10, 11, 25] ?_
      (repeat refine ja0 ?_); refine iffx ?_
      by_cases c0 : c = 0
      · have d1 : decide ((c : Int) = 0) = true := decide_eq_true (by omega)
        by_cases k0 : 0 < k
        · have d2 : decide ((0 : Int) < (k : Int)) = true := decide_eq_true (by omega)
          rw [if_pos (by omega)]
          have hX := And.intro jd5 (And.intro d1 (d2))
          (repeat refine ja0 ?_); refine rggx [5, 6, 28] ?_
          (repeat refine ja0 ?_); refine iftx ?_
          (repeat refine ja0 ?_); refine rgx [2, 3, 4] ?_
          (repeat refine ja0 ?_); refine ja9 ?_; refine retx ?_; (try dsimp only [outV, ja8])
          exact ja7 rfl
        · have d2 : decide ((0 : Int) < (k : Int)) = false := decide_eq_false (by omega)
          by_cases y0 : 281474976710656 < y
          · have d3 : decide ((281474976710656 : Int) < (y : Int)) = true := decide_eq_true (by omega)
            rw [if_pos (by omega)]
            have hX := And.intro jd5 (And.intro d1 (And.intro d2 (d3)))
            (repeat refine ja0 ?_); refine rggx [5, 6, 28] ?_
            (repeat refine ja0 ?_); refine iftx ?_
            (repeat refine ja0 ?_); refine rgx [2, 3, 4] ?_
            (repeat refine ja0 ?_); refine ja9 ?_; refine retx ?_; (try dsimp only [outV, ja8])
            exact ja7 rfl
          · have d3 : decide ((281474976710656 : Int) < (y : Int)) = false := decide_eq_false (by omega)
            rw [if_neg (by omega)]
            have hX := And.intro jd5 (And.intro d1 (And.intro d2 (d3)))
            (repeat refine ja0 ?_); refine rggx [5, 6, 28] ?_
            (repeat refine ja0 ?_); refine iffx ?_
            (repeat refine ja0 ?_); refine jb3 ?_
            (repeat refine ja0 ?_); refine rgx [2, 3, 4] ?_
            (repeat refine ja0 ?_); refine ja9 ?_; refine retx ?_; (try dsimp only [outV, ja8])
            exact ja7 rfl
      · have d1 : decide ((c : Int) = 0) = false := decide_eq_false (by omega)
        by_cases y0 : 281474976710656 < y
        · have d3 : decide ((281474976710656 : Int) < (y : Int)) = true := decide_eq_true (by omega)
          rw [if_pos (by omega)]
          have hX := And.intro jd5 (And.intro d1 (d3))
          (repeat refine ja0 ?_); refine rggx [5, 6, 28] ?_
          (repeat refine ja0 ?_); refine iftx ?_
          (repeat refine ja0 ?_); refine rgx [2, 3, 4] ?_
          (repeat refine ja0 ?_); refine ja9 ?_; refine retx ?_; (try dsimp only [outV, ja8])
          exact ja7 rfl
        · have d3 : decide ((281474976710656 : Int) < (y : Int)) = false := decide_eq_false (by omega)
          rw [if_neg (by omega)]
          have hX := And.intro jd5 (And.intro d1 (d3))
          (repeat refine ja0 ?_); refine rggx [5, 6, 28] ?_
          (repeat refine ja0 ?_); refine iffx ?_
          (repeat refine ja0 ?_); refine jb3 ?_
          (repeat refine ja0 ?_); refine rgx [2, 3, 4] ?_
          (repeat refine ja0 ?_); refine ja9 ?_; refine retx ?_; (try dsimp only [outV, ja8])
          exact ja7 rfl
    · rw [decide_eq_false hend] at hE
      have hc1 : ¬ c < 128 := of_decide_eq_false hE
      have d0 : decide ((128 : Int) ≤ (c : Int)) = true := decide_eq_true (by omega)
      have hX := And.intro jd5 (d0)
      (repeat refine ja0 ?_); refine rgx [0, 5, 6, 7, 10, 11, 25] ?_
      (repeat refine ja0 ?_); refine iftx ?_
      (repeat refine ja0 ?_); refine je4 ?_
      (repeat refine ja0 ?_); refine rgx [0, 5, 10, 11] ?_
      exact ⟨_, m - 1, WeakX.refl _, by omega, k + 1, by omega, by omega, by rw [hy]; first | rfl | simp [qD, iD]⟩
  · intro hc; (try simp only [hcs, ne_eq] at hc)
    obtain rfl : k = N := by omega
    rw [ks2 (by omega)]
    (repeat refine ja0 ?_); refine je4 ?_
    by_cases h7 : 7 ≤ s.length
    · have d0 : decide ((7 : Int) ≤ (s.length : Int)) = true := decide_eq_true (by omega)
      rw [if_pos h7]
      have hX := And.intro d0 (and_true)
      (repeat refine ja0 ?_); refine rgx [45] ?_
      (repeat refine ja0 ?_); refine iftx ?_
      (repeat refine ja0 ?_); refine rgx [2, 3, 4] ?_
      (repeat refine ja0 ?_); refine ja9 ?_; refine retx ?_; (try dsimp only [outV, ja8])
      exact ja7 rfl
    · have d0 : decide ((7 : Int) ≤ (s.length : Int)) = false := decide_eq_false (by omega)
      rw [if_neg h7]
      have hX := And.intro d0 (and_true)
      (repeat refine ja0 ?_); refine rgx [45] ?_
      (repeat refine ja0 ?_); refine iffx ?_
      (repeat refine ja0 ?_); refine jb3 ?_
      (repeat refine ja0 ?_); refine rgx [2, 3, 4] ?_
      (repeat refine ja0 ?_); refine ja9 ?_; refine retx ?_; (try dsimp only [outV, ja8])
      exact ja7 rfl
theorem kw9 (k : IntKind) (n : Int) : ji4 (.v (.int k n)) = UInt8.ofNat n.toNat := rfl
set_option maxHeartbeats 4000000 in
theorem ke1 (n : Nat) (hn : n < 18446744073709551616) : PC (jb8 Tryd.prog) 63 [qD n] (teD (numS n) (numE n)) := by
  unfold numS numE
  by_cases h : 281474976710656 < n
  · rw [if_pos h, if_pos h]
    have d0 : decide ((281474976710656 : Int) < (n : Int)) = true := decide_eq_true (by omega)
    have hX := and_true; refine jb6 Tryd.func63 rfl Tryd.ntmps63 Tryd.results63 rfl (by simp only [jb5, Nat.reduceAdd, u32D, u8D, iD, bD, strD, ja6, jb1, ja5, ja3, ja4, ja2, ja1, jb2, jb0]; exact rfl) ?_; intro w0 A
    have hX := And.intro jd5 (d0)
    (repeat refine ja0 ?_); refine rgx [0] ?_
    (repeat refine ja0 ?_); refine rgx [0, 6] ?_
    (repeat refine ja0 ?_); refine iftx ?_
    (repeat refine ja0 ?_); refine rgx [2, 3] ?_
    (repeat refine ja0 ?_); refine ja9 ?_; refine retx ?_; (try dsimp only [outV, ja8])
    exact ja7 rfl
  · rw [if_neg h, if_neg h]
    have d0 : decide ((281474976710656 : Int) < (n : Int)) = false := decide_eq_false (by omega)
    have hX := and_true; refine jb6 Tryd.func63 rfl Tryd.ntmps63 Tryd.results63 rfl (by simp only [jb5, Nat.reduceAdd, u32D, u8D, iD, bD, strD, ja6, jb1, ja5, ja3, ja4, ja2, ja1, jb2, jb0]; exact rfl) ?_; intro w0 A
    have hX := And.intro jd5 (d0)
    (repeat refine ja0 ?_); refine rgx [0] ?_
    (repeat refine ja0 ?_); refine rgx [0, 6] ?_
    (repeat refine ja0 ?_); refine iffx ?_
    (repeat refine ja0 ?_); refine jb3 ?_
    (repeat refine ja0 ?_); refine rgx [0, 4] ?_
    (repeat refine ja0 ?_); refine jb9 ?_
    (repeat refine ja0 ?_); refine jf4 (fun m _ st => ∃ pre, pre ++ varN m = varN n ∧ m ≤ n ∧ st = mk [(0, qD m), (4, strD pre)] []) n ⟨_, WeakX.refl _, [], rfl, Nat.le_refl _, rfl⟩ ?_
    rintro m _ _ ⟨pre, hp, hmn, rfl⟩
    have hpl : pre.length ≤ 11 := by have := congrArg List.length hp; rw [List.length_append] at this; have := jh3 n; omega
    have hX := And.intro jd5 (and_true)
    (repeat refine ja0 ?_); refine rgx [0, 4, 8] ?_
    (repeat refine ja0 ?_); refine ifx ?_ ?_
    · intro hc; (try simp only [hcs, ne_eq] at hc)
      have e1 : ((m : Int) % 128 + 128) % 18446744073709551616 = ((m % 128 + 128 : Nat) : Int) := by omega
      have e2 : ((m % 128 + 128 : Nat) : Int) % 256 = ((m % 128 + 128 : Nat) : Int) := by omega
      have hv := ki5 (n := m) (by omega) (by omega)
      (repeat refine ja0 ?_); refine jb3 ?_
      (repeat refine ja0 ?_); refine jb9 ?_
      have hX := And.intro jd5 (And.intro e1 (And.intro e2 (kw9)))
      (repeat refine ja0 ?_); refine rgx [0, 4] ?_
      (repeat refine ja0 ?_); refine rgx [0, 4] ?_
      refine ⟨_, m / 128, WeakX.refl _, by omega, pre ++ [UInt8.ofNat (m % 128 + 128)], by rw [List.append_assoc]; simp only [List.cons_append, List.nil_append]; rw [← hv, hp], by omega, ?_⟩
      first | rfl | simp [qD]
    · intro hc; (try simp only [hcs, ne_eq] at hc)
      have hv := kb8 (n := m) (by omega)
      have e1 : (m : Int) % 256 = (m : Int) := by omega
      (repeat refine ja0 ?_); refine je4 ?_
      have hX := And.intro jd5 (And.intro e1 (kw9))
      (repeat refine ja0 ?_); refine rgx [2, 3] ?_
      (repeat refine ja0 ?_); refine ja9 ?_; refine retx ?_; (try dsimp only [outV, ja8])
      rw [← hp, hv]
      exact ja7 rfl
set_option maxHeartbeats 8000000 in
theorem jz9 (s : List UInt8) (hs : s.length ≤ 4611686018427387904) : PC (jb8 Tryd.prog) 118 [strD s] (gnD (getS s)) := by
  have hel := kr9 s
  have hX := and_true; refine jb6 Tryd.func118 rfl Tryd.ntmps118 Tryd.results118 rfl (by simp only [jb5, Nat.reduceAdd, u32D, u8D, iD, bD, strD, ja6, jb1, ja5, ja3, ja4, ja2, ja1, jb2, jb0]; exact rfl) ?_; intro w0 A
  (repeat refine ja0 ?_); refine rgx [0] ?_
  (repeat refine ja0 ?_); refine rgx [0, 5, 6] ?_
  (repeat refine ja0 ?_); refine rgx [0, 5, 6, 7] ?_
  (repeat refine ja0 ?_); refine jb9 ?_
  (repeat refine ja0 ?_); refine jf4 (fun m _ st => ∃ k, k + m = s.length ∧ k ≤ endI s ∧ k ≤ 7 ∧ st = mk [(0, strD s), (5, qD (decL (s.take k))), (6, qD (128 ^ k)), (7, iD (k : Int))] []) s.length ⟨_, WeakX.refl _, 0, by omega, by omega, by omega, rfl⟩ ?_
  rintro m _ _ ⟨k, hk, hke, hk7, rfl⟩
  have hX := And.intro jd5 (and_true)
  (repeat refine ja0 ?_); refine rgx [0, 5, 6, 7, 13] ?_
  (repeat refine ja0 ?_); refine ifx ?_ ?_
  · intro hc; (try simp only [hcs, ne_eq] at hc)
    have hkn : k < s.length := by omega
    (repeat refine ja0 ?_); refine jb3 ?_
    (repeat refine ja0 ?_); refine jb9 ?_
    by_cases h7 : k = 7
    · subst h7
      rw [ks2 (by omega), if_pos (by omega)]
      have hX := And.intro jd5 (and_true)
      (repeat refine ja0 ?_); refine rgx [0, 5, 6, 7, 17] ?_
      (repeat refine ja0 ?_); refine iftx ?_
      (repeat refine ja0 ?_); refine rgx [2, 3, 4] ?_
      (repeat refine ja0 ?_); refine ja9 ?_; refine retx ?_; (try dsimp only [outV, ja8])
      exact ja7 rfl
    · have dk : decide ((k : Int) = 7) = false := decide_eq_false (by omega)
      have hE := jy6 s k hkn hke
      have hst := kv1 hkn
      have hxl := qe2 (s := s) (k := k) (by omega)
      have hyl := qe2 (s := s) (k := k + 1) (by omega)
      have hat := qm4 hkn (by omega : k < 7)
      have hvt := fun he : k = endI s => he ▸ km3 (s := s) (by omega) (by omega)
      have hz := qm2 (b := s.getD k 0)
      have hcl := (s.getD k 0).toNat_lt
      have e1 : (((s.getD k 0).toNat : Nat) : Int) % 128 = (((s.getD k 0).toNat % 128 : Nat) : Int) := by omega
      have e2 : (((s.getD k 0).toNat % 128 : Nat) : Int) % 18446744073709551616 = (((s.getD k 0).toNat % 128 : Nat) : Int) := by omega
      have hp := kq9 (k := k) (by omega)
      have hp1 := kq9 (k := k + 1) (by omega)
      have hps : 128 ^ (k + 1) = 128 ^ k * 128 := Nat.pow_succ ..
      have hw := ql1 (c := (s.getD k 0).toNat) (k := k) (by omega)
      have e3 : (((s.getD k 0).toNat % 128 : Nat) : Int) * ((128 ^ k : Nat) : Int) = (((s.getD k 0).toNat % 128 * 128 ^ k : Nat) : Int) := (Int.natCast_mul _ _).symm
      generalize hw' : (s.getD k 0).toNat % 128 * 128 ^ k = w at *
      have e4 : (w : Int) % 18446744073709551616 = (w : Int) := by omega
      have e5 : (((decL (s.take k) : Nat) : Int) + (w : Int)) % 18446744073709551616 = ((decL (s.take (k + 1)) : Nat) : Int) := by omega
      have e6 : (((128 ^ k : Nat) : Int) * 128) % 18446744073709551616 = ((128 ^ (k + 1) : Nat) : Int) := by omega
      have hmod : (s.getD k 0).toNat % 128 < 128 := Nat.mod_lt _ (by omega)
      clear hw'
      generalize hcc : (s.getD k 0).toNat % 128 = c' at *
      generalize hu : 128 ^ (k + 1) = u' at *
      generalize 128 ^ k = u at *
      clear hcc
      have hX := And.intro jd5 (dk)
      (repeat refine ja0 ?_); refine rgx [0, 5, 6, 7, 17] ?_
      (repeat refine ja0 ?_); refine iffx ?_
      (repeat refine ja0 ?_); refine jb3 ?_
      have hX := And.intro jd5 (And.intro e1 (And.intro e2 (And.intro e3 (And.intro e4 (e5)))))
      (repeat refine ja0 ?_); refine rgx [0, 5, 6, 7] ?_
      have hX := And.intro jd5 (e6)
      (repeat refine ja0 ?_); refine rgx [0, 5, 6, 7] ?_
      generalize decL (s.take k) = x at *
      generalize hy : decL (s.take (k + 1)) = y at *
      have kn := ke1 y (by omega)
      generalize hcv : (s.getD k 0).toNat = c at *
      by_cases hend : k = endI s
      · rw [decide_eq_true hend] at hE
        have hc1 : c < 128 := of_decide_eq_true hE
        have d0 : decide ((128 : Int) ≤ (c : Int)) = false := decide_eq_false (by omega)
        replace hvt := hvt hend
        rw [hat hend]
        have hq : iD (k : Int) = .v (.int .i64 (k : Int)) := rfl
        have hkt : ((k : Int) + 1).toNat = k + 1 := by omega
        have hX := And.intro jd5 (And.intro jj6 (And.intro hcv (d0)))
        have hK := And.intro (kn) trivial; (repeat refine ja0 ?_); refine rgx [0, 5, 6, 7, 32] ?_
        (repeat refine ja0 ?_); refine iffx ?_
        (repeat refine ja0 ?_); refine jb3 ?_
        (repeat refine ja0 ?_); refine rgx [0, 5, 7, 8, 9] ?_
        by_cases y0 : 281474976710656 < y
        · have hne : numE y = 1 := if_pos y0
          rw [if_pos (by omega)]
          have hX := And.intro jd5 (And.intro hne (and_true))
          (repeat refine ja0 ?_); refine rggx [5, 7, 47] ?_
          (repeat refine ja0 ?_); refine iftx ?_
          (repeat refine ja0 ?_); refine rgx [2, 3, 4] ?_
          (repeat refine ja0 ?_); refine ja9 ?_; refine retx ?_; (try dsimp only [outV, ja8])
          exact ja7 rfl
        · have hne : numE y = 0 := if_neg y0
          have hns : numS y = varN y := if_neg y0
          have hX := And.intro jd5 (And.intro hne (And.intro hns (hkt)))
          (repeat refine ja0 ?_); refine rggx [5, 7, 47] ?_
          (repeat refine ja0 ?_); refine ifx ?_ ?_
          · intro hc; (try simp only [hcs, ne_eq] at hc)
            have hb : 0 < k ∧ c = 0 := Classical.byContradiction fun h => (@of_decide_eq_false _ _ hc) (hvt.2 fun h2 => h ⟨h2.1, hz.1 h2.2⟩)
            rw [if_pos (.inl hb)]
            (repeat refine ja0 ?_); refine rgx [2, 3, 4] ?_
            (repeat refine ja0 ?_); refine ja9 ?_; refine retx ?_; (try dsimp only [outV, ja8])
            exact ja7 rfl
          · intro hc; (try simp only [hcs, ne_eq] at hc)
            have hb : ¬ (0 < k ∧ c = 0) := fun h => (hvt.1 (@of_decide_eq_true _ _ hc)) ⟨h.1, hz.2 h.2⟩
            rw [if_neg (by intro h; rcases h with h | h; exact hb h; exact y0 h)]
            (repeat refine ja0 ?_); refine jb3 ?_
            (repeat refine ja0 ?_); refine rgx [2, 3, 4] ?_
            (repeat refine ja0 ?_); refine ja9 ?_; refine retx ?_; (try dsimp only [outV, ja8])
            exact ja7 rfl
      · rw [decide_eq_false hend] at hE
        have hc1 : ¬ c < 128 := of_decide_eq_false hE
        have d0 : decide ((128 : Int) ≤ (c : Int)) = true := decide_eq_true (by omega)
        have hX := And.intro jd5 (And.intro hcv (d0))
        (repeat refine ja0 ?_); refine rgx [0, 5, 6, 7, 32] ?_
        (repeat refine ja0 ?_); refine iftx ?_
        (repeat refine ja0 ?_); refine je4 ?_
        (repeat refine ja0 ?_); refine rgx [0, 5, 6, 7] ?_
        exact ⟨_, m - 1, WeakX.refl _, by omega, k + 1, by omega, by omega, by omega, by rw [hy, hu]; first | rfl | simp [qD, iD]⟩
  · intro hc; (try simp only [hcs, ne_eq] at hc)
    obtain rfl : k = s.length := by omega
    rw [ks2 (by omega)]
    (repeat refine ja0 ?_); refine je4 ?_
    by_cases h7 : 7 ≤ s.length
    · have d0 : decide ((7 : Int) ≤ (s.length : Int)) = true := decide_eq_true (by omega)
      rw [if_pos h7]
      have hX := And.intro d0 (and_true)
      (repeat refine ja0 ?_); refine rgx [53] ?_
      (repeat refine ja0 ?_); refine iftx ?_
      (repeat refine ja0 ?_); refine rgx [2, 3, 4] ?_
      (repeat refine ja0 ?_); refine ja9 ?_; refine retx ?_; (try dsimp only [outV, ja8])
      exact ja7 rfl
    · have d0 : decide ((7 : Int) ≤ (s.length : Int)) = false := decide_eq_false (by omega)
      rw [if_neg h7]
      have hX := And.intro d0 (and_true)
      (repeat refine ja0 ?_); refine rgx [53] ?_
      (repeat refine ja0 ?_); refine iffx ?_
      (repeat refine ja0 ?_); refine jb3 ?_
      (repeat refine ja0 ?_); refine rgx [2, 3, 4] ?_
      (repeat refine ja0 ?_); refine ja9 ?_; refine retx ?_; (try dsimp only [outV, ja8])
      exact ja7 rfl
end Go.Proofs.YtcdnpmpjeeiapaaDoor
