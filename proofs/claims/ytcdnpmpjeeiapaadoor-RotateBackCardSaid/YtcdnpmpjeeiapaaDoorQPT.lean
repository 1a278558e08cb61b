/- Trees of sums: plain. Whether there may be so many leaves; what is above two. The level above. All levels. Roots and paths. Paths, walked. Ways, walked. -/
import Derived.Test.YtcdnpmpjeeiapaaDoorQPF
import Derived.Test.YtcdnpmpjeeiapaaDoorQPD
import Derived.Test.YtcdnpmpjeeiapaaDoorQPG
set_option linter.unusedSimpArgs false
set_option linter.unusedVariables false
set_option maxRecDepth 10000
namespace Go.Proofs.YtcdnpmpjeeiapaaDoor
def kp9 (a b : List UInt8) : List UInt8 := 1 :: (a ++ b)
def jm7 (a b : List UInt8) : List UInt8 := sumP (kp9 a b)
theorem kd7 (a b : List UInt8) : (jm7 a b).length = 32 := jx0 _
def upS : List (List UInt8) → List (List UInt8)
  | a :: b :: l => jm7 a b :: upS l
  | _ => []
theorem js5 : ∀ l : List (List UInt8), (upS l).length = l.length / 2
  | [] => by simp [upS]
  | [_] => by simp [upS]
  | a :: b :: l => by simp only [upS, List.length_cons, js5 l]; omega
theorem kq7 : ∀ l : List (List UInt8), ∀ h ∈ upS l, h.length = 32
  | [], h, hh => by cases hh
  | [_], h, hh => by cases hh
  | a :: b :: l, h, hh => by
    simp only [upS, List.mem_cons] at hh
    rcases hh with rfl | hh
    · exact kd7 _ _
    · exact kq7 l h hh
theorem qa6 : ∀ (m : Nat) (l : List (List UInt8)), upS (l.take (2 * m)) = (upS l).take m
  | 0, l => by simp [upS]
  | m + 1, [] => by simp [upS]
  | m + 1, [a] => by
    rw [show 2 * (m + 1) = 2 * m + 1 + 1 by omega]
    simp [upS]
  | m + 1, a :: b :: l => by
    rw [show 2 * (m + 1) = 2 * m + 1 + 1 by omega]
    simp only [List.take_succ_cons, upS]
    rw [qa6 m l]
theorem qe8 : ∀ (m : Nat) (l : List (List UInt8)), upS (l.drop (2 * m)) = (upS l).drop m
  | 0, l => by simp
  | m + 1, [] => by simp [upS]
  | m + 1, [a] => by
    rw [show 2 * (m + 1) = 2 * m + 1 + 1 by omega]
    simp [upS]
  | m + 1, a :: b :: l => by
    rw [show 2 * (m + 1) = 2 * m + 1 + 1 by omega]
    simp only [List.drop_succ_cons, upS]
    rw [qe8 m l]
theorem qf3 : ∀ (l : List (List UInt8)) (a b : List UInt8), l.length % 2 = 0 → upS (l ++ [a, b]) = upS l ++ [jm7 a b]
  | [], a, b, _ => rfl
  | [_], a, b, h => by simp at h
  | x :: y :: l, a, b, h => by
    simp only [List.cons_append, upS]
    rw [qf3 l a b (by simp only [List.length_cons] at h; omega)]
theorem qk2 : ∀ (l : List (List UInt8)) (j : Nat), 2 * j + 1 < l.length → (upS l).getD j [] = jm7 (l.getD (2 * j) []) (l.getD (2 * j + 1) [])
  | [], j, h => by simp at h
  | [_], j, h => by simp at h
  | a :: b :: l, 0, _ => rfl
  | a :: b :: l, j + 1, h => by
    have := qk2 l j (by simp only [List.length_cons] at h; omega)
    rw [show 2 * (j + 1) = 2 * j + 1 + 1 by omega]
    simpa only [upS, List.getD_cons_succ] using this
def jm3 : Nat → List (List UInt8) → List UInt8
  | 0, l => l.getD 0 []
  | k + 1, l => jm3 k (upS l)
theorem kk3 : ∀ (k : Nat) (l : List (List UInt8)), l.length = 2 ^ (k + 1) → jm3 (k + 1) l = jm7 (jm3 k (l.take (2 ^ k))) (jm3 k (l.drop (2 ^ k)))
  | 0, l, h => by
    match l, h with
    | [a, b], _ => rfl
  | k + 1, l, h => by
    have e : 2 ^ (k + 1) = 2 * 2 ^ k := by rw [Nat.pow_succ]; omega
    have h2 : (upS l).length = 2 ^ (k + 1) := by rw [js5, h, Nat.pow_succ 2 (k + 1)]; omega
    show jm3 (k + 1) (upS l) = jm7 (jm3 k (upS (l.take (2 ^ (k + 1))))) (jm3 k (upS (l.drop (2 ^ (k + 1)))))
    rw [kk3 k (upS l) h2, e, qa6, qe8]
theorem qs4 : ∀ (k : Nat) (l : List (List UInt8)), l.length = 2 ^ k → (∀ h ∈ l, h.length = 32) → (jm3 k l).length = 32
  | 0, l, h, hl => by
    match l, h with
    | [a], _ => exact hl a (by simp)
  | k + 1, l, h, hl => by
    rw [kk3 k l h]
    exact kd7 _ _
def jv3 (i : Nat) : Nat := if i % 2 = 0 then i + 1 else i - 1
def jn3 : Nat → List (List UInt8) → Nat → List (List UInt8)
  | 0, _, _ => []
  | k + 1, l, i => l.getD (jv3 i) [] :: jn3 k (upS l) (i / 2)
theorem jz2 : ∀ (k : Nat) (l : List (List UInt8)) (i : Nat), (jn3 k l i).length = k
  | 0, _, _ => rfl
  | k + 1, l, i => by simp [jn3, jz2 k]
def jl2 : List (List UInt8) → Nat → List UInt8 → List UInt8
  | [], _, leaf => leaf
  | x :: p, i, leaf => jl2 p (i / 2) (if i % 2 = 0 then jm7 leaf x else jm7 x leaf)
theorem km5 : ∀ (k : Nat) (l : List (List UInt8)) (i : Nat), l.length = 2 ^ k → i < 2 ^ k → jl2 (jn3 k l i) i (l.getD i []) = jm3 k l
  | 0, l, i, h, hi => by
    obtain rfl : i = 0 := by simp at hi; omega
    rfl
  | k + 1, l, i, h, hi => by
    have e : 2 ^ (k + 1) = 2 * 2 ^ k := by rw [Nat.pow_succ]; omega
    have h2 : (upS l).length = 2 ^ k := by rw [js5, h]; omega
    have ih := km5 k (upS l) (i / 2) h2 (by omega)
    have hg := qk2 l (i / 2) (by omega)
    simp only [jn3, jl2, jm3]
    rw [← ih]
    congr 1
    rw [hg]
    unfold jv3
    split
    · rename_i hc
      rw [show 2 * (i / 2) = i by omega]
    · rename_i hc
      rw [show 2 * (i / 2) + 1 = i by omega, show 2 * (i / 2) = i - 1 by omega]
theorem kc1 : ∀ (p : List (List UInt8)) (i : Nat) (leaf : List UInt8), leaf.length = 32 → (jl2 p i leaf).length = 32
  | [], _, _, h => h
  | x :: p, i, leaf, h => kc1 p _ _ (by split <;> exact kd7 _ _)
theorem kj4 : ∀ (p : List (List UInt8)) (x : List UInt8) (i : Nat) (leaf : List UInt8), jl2 (p ++ [x]) i leaf = if i / 2 ^ p.length % 2 = 0 then jm7 (jl2 p i leaf) x else jm7 x (jl2 p i leaf)
  | [], x, i, leaf => by simp [jl2]
  | y :: p, x, i, leaf => by
    simp only [List.cons_append, jl2, List.length_cons]
    rw [kj4 p x, Nat.div_div_eq_div_mul, ← Nat.pow_succ']
end Go.Proofs.YtcdnpmpjeeiapaaDoor

namespace Go.Proofs.YtcdnpmpjeeiapaaDoor
open Go.RowKit
def popT (n : Nat) : Nat := n % 2 + n / 2 % 2 + n / 4 % 2 + n / 8 % 2 + n / 16 % 2 + n / 32 % 2 + n / 64 % 2 + n / 128 % 2
def fitB (n : Nat) : Bool := n == 1 || n == 2 || n == 4 || n == 8 || n == 16 || n == 32 || n == 64 || n == 128
theorem vm8 (n : Nat) (h : n ≤ 128) : decide ((popT n : Int) = 1) = fitB n := by
  have : ∀ n : _root_.Fin 129, decide ((popT n.val : Int) = 1) = fitB n.val := by decide +kernel
  exact this ⟨n, by omega⟩
def p1 (n : Nat) : Nat := (n / 2 &&& 6148914691236517205) + (n &&& 6148914691236517205)
def p2 (n : Nat) : Nat := (n / 4 &&& 3689348814741910323) + (n &&& 3689348814741910323)
def p3 (n : Nat) : Nat := n / 16 + n &&& 1085102592571150095
theorem o1 (n : Nat) (h : n ≤ 128) : ((((n : Int) / 2 ^ 1).toNat &&& 6148914691236517205 : Nat) + ((n &&& 6148914691236517205 : Nat) : Int)) % 18446744073709551616 = (p1 n : Int) ∧ p1 n ≤ 255 := by
  have : ∀ n : _root_.Fin 129, ((((n.val : Int) / 2 ^ 1).toNat &&& 6148914691236517205 : Nat) + ((n.val &&& 6148914691236517205 : Nat) : Int)) % 18446744073709551616 = (p1 n.val : Int) ∧ p1 n.val ≤ 255 := by decide +kernel
  exact this ⟨n, by omega⟩
theorem o2 (n : Nat) (h : n ≤ 255) : ((((n : Int) / 2 ^ 2).toNat &&& 3689348814741910323 : Nat) + ((n &&& 3689348814741910323 : Nat) : Int)) % 18446744073709551616 = (p2 n : Int) ∧ p2 n ≤ 128 := by
  have : ∀ n : _root_.Fin 256, ((((n.val : Int) / 2 ^ 2).toNat &&& 3689348814741910323 : Nat) + ((n.val &&& 3689348814741910323 : Nat) : Int)) % 18446744073709551616 = (p2 n.val : Int) ∧ p2 n.val ≤ 128 := by decide +kernel
  exact this ⟨n, by omega⟩
theorem o3 (n : Nat) (h : n ≤ 128) : (((((n : Int) / 2 ^ 4 + (n : Int)) % 18446744073709551616).toNat &&& 1085102592571150095 : Nat) : Int) = (p3 n : Int) ∧ p3 n ≤ 255 := by
  have : ∀ n : _root_.Fin 129, (((((n.val : Int) / 2 ^ 4 + (n.val : Int)) % 18446744073709551616).toNat &&& 1085102592571150095 : Nat) : Int) = (p3 n.val : Int) ∧ p3 n.val ≤ 255 := by decide +kernel
  exact this ⟨n, by omega⟩
theorem o4 (n : Nat) (h : n ≤ 255) (k : Nat) (hk : 8 ≤ k) : ((n : Int) + (n : Int) / 2 ^ k) % 18446744073709551616 = (n : Int) := by
  have h1 : (n : Int) / 2 ^ k = 0 := by
    apply Int.ediv_eq_zero_of_lt (by omega)
    have h2 : 2 ^ 8 ≤ 2 ^ k := Nat.pow_le_pow_right (by omega) hk
    have h3 : (2 : Int) ^ k = ((2 ^ k : Nat) : Int) := by simp
    omega
  rw [h1]; omega
theorem o7 (n : Nat) (h : n ≤ 128) : (p3 (p2 (p1 n))) &&& 127 = popT n := by
  have : ∀ n : _root_.Fin 129, (p3 (p2 (p1 n.val))) &&& 127 = popT n.val := by decide +kernel
  exact this ⟨n, by omega⟩
set_option maxHeartbeats 2000000 in
theorem vb0 (n : Nat) (hn : n ≤ 128) : PC (jb8 Tryd.prog) 204 [.v (.int .u64 (n : Int))] (iD (popT n)) := by
  obtain ⟨e1, b1⟩ := o1 n hn
  obtain ⟨e2, b2⟩ := o2 _ b1
  obtain ⟨e3, b3⟩ := o3 _ b2
  have e7 := o7 n hn
  generalize p1 n = x1 at *
  generalize p2 x1 = x2 at *
  generalize p3 x2 = x3 at *
  have e4 := o4 x3 b3 8 (by omega)
  have e5 := o4 x3 b3 16 (by omega)
  have e6 := o4 x3 b3 32 (by omega)
  have hX := and_true; refine jb6 Tryd.func204 rfl Tryd.ntmps204 Tryd.results204 rfl (by simp only [jb5, Nat.reduceAdd, u32D, u8D, iD, bD, strD, ja6, jb1, ja5, ja3, ja4, ja2, ja1, jb2, jb0]; exact rfl) ?_; intro w0 A
  have hX := And.intro e1 (And.intro e2 (And.intro e3 (And.intro e4 (And.intro e5 (And.intro e6 (e7))))))
  (repeat refine ja0 ?_); refine rgx [0] ?_
  (repeat refine ja0 ?_); refine rgx [0] ?_
  (repeat refine ja0 ?_); refine rgx [0] ?_
  (repeat refine ja0 ?_); refine rgx [0] ?_
  (repeat refine ja0 ?_); refine rgx [0] ?_
  (repeat refine ja0 ?_); refine rgx [0] ?_
  (repeat refine ja0 ?_); refine rgx [0] ?_
  (repeat refine ja0 ?_); refine rgx [2] ?_
  (repeat refine ja0 ?_); refine ja9 ?_; refine retx ?_; (try dsimp only [outV, ja8])
  exact ja7 rfl
theorem vt6 (n : Nat) (hn : n ≤ 128) : PC (jb8 Tryd.prog) 174 [.v (.int .u64 (n : Int))] (iD (popT n)) := by
  have hX := and_true; refine jb6 Tryd.func174 rfl Tryd.ntmps174 Tryd.results174 rfl (by simp only [jb5, Nat.reduceAdd, u32D, u8D, iD, bD, strD, ja6, jb1, ja5, ja3, ja4, ja2, ja1, jb2, jb0]; exact rfl) ?_; intro w0 A
  have hK := And.intro (vb0 n hn) trivial; (repeat refine ja0 ?_); refine rgx [0] ?_
  (repeat refine ja0 ?_); refine iffx ?_
  (repeat refine ja0 ?_); refine jb3 ?_
  (repeat refine ja0 ?_); refine rgx [2] ?_
  (repeat refine ja0 ?_); refine ja9 ?_; refine retx ?_; (try dsimp only [outV, ja8])
  exact ja7 rfl
theorem vp2 {n : Nat} (h : 128 < n) : fitB n = false := by
  simp only [fitB, Bool.or_eq_false_iff, beq_eq_false_iff_ne]
  omega
theorem qy7 (n : Nat) : PC (jb8 Tryd.prog) 147 [iD (n : Int)] (bD (fitB n)) := by
  by_cases h0 : n = 0
  · subst h0
    have d0 : decide ((0 : Int) < ((0 : Nat) : Int)) = false := by decide
    have hX := and_true; refine jb6 Tryd.func147 rfl Tryd.ntmps147 Tryd.results147 rfl (by simp only [jb5, Nat.reduceAdd, u32D, u8D, iD, bD, strD, ja6, jb1, ja5, ja3, ja4, ja2, ja1, jb2, jb0]; exact rfl) ?_; intro w0 A
    have hX := And.intro d0 (and_true)
    (repeat refine ja0 ?_); refine rgx [0] ?_
    (repeat refine ja0 ?_); refine rggx [2] ?_
    (repeat refine ja0 ?_); refine ja9 ?_; refine retx ?_; (try dsimp only [outV, ja8])
    exact ja7 rfl
  · have d0 : decide ((0 : Int) < (n : Int)) = true := decide_eq_true (by omega)
    by_cases h1 : 128 < n
    · have d1 : decide ((n : Int) ≤ 128) = false := decide_eq_false (by omega)
      have hX := and_true; refine jb6 Tryd.func147 rfl Tryd.ntmps147 Tryd.results147 rfl (by simp only [jb5, Nat.reduceAdd, u32D, u8D, iD, bD, strD, ja6, jb1, ja5, ja3, ja4, ja2, ja1, jb2, jb0]; exact rfl) ?_; intro w0 A
      have hX := And.intro d0 (d1)
      (repeat refine ja0 ?_); refine rgx [0] ?_
      (repeat refine ja0 ?_); refine rggx [2] ?_
      (repeat refine ja0 ?_); refine ja9 ?_; refine retx ?_; (try dsimp only [outV, ja8])
      rw [vp2 h1]
      exact ja7 rfl
    · have d1 : decide ((n : Int) ≤ 128) = true := decide_eq_true (by omega)
      have m1 : (n : Int) % 18446744073709551616 = (n : Int) := by omega
      have d2 := vm8 n (by omega)
      have hX := and_true; refine jb6 Tryd.func147 rfl Tryd.ntmps147 Tryd.results147 rfl (by simp only [jb5, Nat.reduceAdd, u32D, u8D, iD, bD, strD, ja6, jb1, ja5, ja3, ja4, ja2, ja1, jb2, jb0]; exact rfl) ?_; intro w0 A
      have hX := And.intro d0 (And.intro d1 (And.intro m1 (d2)))
      have hK := And.intro (vt6 n (by omega)) trivial; (repeat refine ja0 ?_); refine rgx [0] ?_
      (repeat refine ja0 ?_); refine rggx [2] ?_
      (repeat refine ja0 ?_); refine ja9 ?_; refine retx ?_; (try dsimp only [outV, ja8])
      exact ja7 rfl

theorem qj5 {a : List UInt8} (ha : a.length = 32) : ((List.range 32).map fun i => D.v (.int .u8 ((a.getD i 0).toNat : Int))).map ji4 = a := by
  rw [vn1 a 32 (by omega), List.take_of_length_le (by omega)]
theorem kr1 {a : List UInt8} (ha : a.length = 32) : ((List.range 32).map fun i => D.v (.int .u8 ((a.getD i 0).toNat : Int))) = a.map jc1 := by
  apply List.ext_getElem
  · simp [ha]
  · intro i h1 h2
    simp at h2
    simp [List.getD_eq_getElem?_getD, h2, jc1]

theorem ku1 {a b : List UInt8} (ha : a.length = 32) (hb : b.length = 32) : (kp9 a b).length = 65 := by simp [kp9, ha, hb]

set_option maxHeartbeats 2000000 in
theorem kr8 (a b : List UInt8) (ha : a.length = 32) (hb : b.length = 32) : PC (jb8 Tryd.prog) 128 [jg4 a, jg4 b] (jg4 (jm7 a b)) := by
  have hh : ∀ h, jg4 h = .arr .u8 32 (fun i => ((h.getD i 0).toNat : Int)) := fun _ => rfl
  have ea := qj5 ha
  have eb := qj5 hb
  have hX := and_true; refine jb6 Tryd.func128 rfl Tryd.ntmps128 Tryd.results128 rfl (by simp only [jb5, Nat.reduceAdd, u32D, u8D, iD, bD, strD, ja6, jb1, ja5, ja3, ja4, ja2, ja1, jb2, jb0]; exact rfl) ?_; intro w0 A
  have hX := And.intro hh (and_true)
  (repeat refine ja0 ?_); refine rgx [2, 3, 4] ?_
  (repeat refine ja0 ?_); refine jc4 [3, 4, 5] ?_; intro w0 A S0 f0; refine ex rfl (jw3 rfl rfl rfl rfl rfl) ?_; (repeat ((with_reducible show DR _ _ _ (_ :: _) _); first | (refine cx _ (envG _ _ _ _ _ _) rfl rfl rfl rfl rfl ?_ (hc := by first | fail))  | (refine sx ?_))); refine jb4 ?_; refine kl1 ?_
  have eR : (D.v (Value.int .u8 1) :: ((List.range 32).map (fun i => D.v (.int .u8 ((a.getD i 0).toNat : Int))) ++ (List.range 32).map (fun i => D.v (.int .u8 ((b.getD i 0).toNat : Int))))) = (kp9 a b).map jc1 := by
    rw [kr1 ha, kr1 hb]
    simp [kp9, jc1]
  have hl := ku1 ha hb
  have hX := And.intro eR (hl)
  (repeat refine ja0 ?_); refine jc4 [4] ?_; intro w0 A S0 f0; (repeat ((with_reducible show DR _ _ _ (_ :: _) _); first | (refine cx _ (envG _ _ _ _ _ _) rfl rfl rfl rfl rfl ?_ (hc := by first | exact kj1 _ (by rw [ku1 ha hb]; omega)))  | (refine sx ?_))); refine jb4 ?_; refine kl1 ?_
  (repeat refine ja0 ?_); refine ja9 ?_; refine retx ?_; (try dsimp only [outV, ja8])
  exact ja7 rfl
def hsD (l : List (List UInt8)) : D := .sl l ([] : List UInt8) jg4
theorem jg6 (l : List (List UInt8)) : hsD l = .sl l ([] : List UInt8) jg4 := rfl
def rowD (l : List (List UInt8)) : D := .cons (hsD l) (.cons (.fn 128 .nil) .nil)
theorem jn2 (l : List (List UInt8)) : rowD l = .cons (.sl l ([] : List UInt8) jg4) (.cons (.fn 128 .nil) .nil) := rfl
def jj2 (l : List (List UInt8)) (k : Nat) : List (List D) := (List.range k).map fun (j : Nat) => [hsD [l.getD (2 * j) [], l.getD (2 * j + 1) []]]
theorem kg3 (l : List (List UInt8)) (k : Nat) : jj2 l k ++ [[hsD [l.getD (2 * k) [], l.getD (2 * k + 1) []]]] = jj2 l (k + 1) := by simp [jj2, List.range_succ]
theorem qh5 (l : List (List UInt8)) {k m : Nat} (h : k ≤ m) : jj2 l k <+: jj2 l m := by
  obtain ⟨d, rfl⟩ := Nat.exists_eq_add_of_le h
  refine ⟨(List.range d).map fun (j : Nat) => [hsD [l.getD (2 * (k + j)) [], l.getD (2 * (k + j) + 1) []]], ?_⟩
  simp only [jj2, List.range_add, List.map_append, List.map_map]
  rfl
theorem kk0 (l : List (List UInt8)) (k : Nat) : (jj2 l k).length = k := by simp [jj2]
theorem qr2 {l : List (List UInt8)} {pre : List (List D)} {x : List D} {m : Nat} (h : pre ++ [x] <+: jj2 l m) : pre.length < m ∧ x = [hsD [l.getD (2 * pre.length) [], l.getD (2 * pre.length + 1) []]] := by
  have hl := h.length_le
  rw [kk0] at hl
  simp at hl
  refine ⟨by omega, ?_⟩
  have h1 := h.getElem (i := pre.length) (by simp)
  rw [List.getElem_append_right (by omega)] at h1
  simp only [Nat.sub_self, List.getElem_singleton] at h1
  rw [h1]
  simp [jj2]
theorem cut2 (l : List (List UInt8)) (j : Nat) (h : 2 * j + 2 ≤ l.length) : (l.take (2 * j + 2)).drop (2 * j) = [l.getD (2 * j) [], l.getD (2 * j + 1) []] := by
  apply List.ext_getElem
  · simp; omega
  · intro i h1 h2
    simp only [List.length_cons, List.length_nil] at h2
    rcases (show i = 0 ∨ i = 1 by omega) with rfl | rfl
    · simp [List.getD_eq_getElem?_getD, show 2 * j < l.length by omega]
    · simp [List.getD_eq_getElem?_getD, show 2 * j + 1 < l.length by omega]
theorem vk1 (l : List (List UInt8)) : PC (jb8 Tryd.prog) 175 [hsD l, iD 2] (.fn 205 (jh5 [.ip (hsD l), .ip (iD 2)])) := by
  have hX := and_true; refine jb6 Tryd.func175 rfl Tryd.ntmps175 Tryd.results175 rfl (by simp only [jb5, Nat.reduceAdd, u32D, u8D, iD, bD, strD, ja6, jb1, ja5, ja3, ja4, ja2, ja1, jb2, jb0]; exact rfl) ?_; intro w0 A
  have hX := And.intro jg6 (and_true)
  (repeat refine ja0 ?_); refine rgx [2, 3] ?_
  (repeat refine ja0 ?_); refine rgx [2, 3, 6] ?_
  (repeat refine ja0 ?_); refine iffx ?_
  (repeat refine ja0 ?_); refine jb3 ?_
  (repeat refine ja0 ?_); refine rgx [4] ?_
  (repeat refine ja0 ?_); refine ja9 ?_; refine retx ?_; (try dsimp only [outV, ja8])
  exact ki0 rfl rfl rfl
set_option maxHeartbeats 4000000 in
theorem vr4 (l : List (List UInt8)) (n : Nat) (hl : l.length = 2 * n) (hb : n ≤ 1000000) : SeqX (jb8 Tryd.prog) 205 (jh5 [.ip (hsD l), .ip (iD 2)]) (jj2 l n) := by
  have hX := and_true; refine kh8 Tryd.func205 rfl Tryd.ntmps205 Tryd.results205 rfl rfl rfl ?_; intro k; refine jv7 (by simp only [jb5, Nat.reduceAdd, u32D, u8D, iD, bD, strD, ja6, jb1, ja5, ja3, ja4, ja2, ja1, jb2, jb0]; exact rfl) ?_
  have hX := And.intro jg6 (and_true)
  (repeat refine ja0 ?_); refine rgx [0, 1, 2, 4] ?_
  (repeat refine ja0 ?_); refine jb9 ?_
  (repeat refine ja0 ?_); refine jf4 (fun m g st => ∃ j, j + m = n ∧ g = (jj2 l j, true) ∧ st = mk [(0, .v (.func (.yield k.l) #[] #[])), (1, .ip (hsD l)), (2, .ip (iD 2)), (4, iD ((2 * j : Nat) : Int))] []) n ⟨_, WeakX.refl _, 0, by omega, rfl, rfl⟩ ?_
  rintro m _ _ ⟨j, hj, rfl, rfl⟩
  have i1 : (l.length : Int) = ((2 * n : Nat) : Int) := by omega
  have hX := And.intro jg6 (i1)
  (repeat refine ja0 ?_); refine rgx [0, 1, 2, 4, 9] ?_
  (repeat refine ja0 ?_); refine ifx ?_ ?_
  · intro hc; (try simp only [hcs, ne_eq] at hc)
    have hjn : j < n := by omega
    have e1 : (if (((l.drop (2 * j)).length : Nat) : Int) < 2 then (((l.drop (2 * j)).length : Nat) : Int) else 2) = 2 := by rw [List.length_drop]; split <;> omega
    have e2 : (((2 * j : Nat) : Int) + 2).toNat = 2 * j + 2 := by omega
    have e3 := cut2 l j (by omega)
    (repeat refine ja0 ?_); refine jb3 ?_
    (repeat refine ja0 ?_); refine jb9 ?_
    have hX := And.intro jg6 (And.intro i1 (e1))
    (repeat refine ja0 ?_); refine rqx [0, 1, 2, 4, 5] ?_
    have hX := And.intro jg6 (And.intro i1 (And.intro e2 (e3)))
    (repeat refine ja0 ?_); refine ka2 ?_; refine ji9 10 ?_; intro w0 A S0 f0; simp only [List.take, List.drop]; (repeat ((with_reducible show DR _ _ _ (_ :: _) _); first | (refine cx _ (envG _ _ _ _ _ _) rfl rfl rfl rfl rfl ?_ (hc := by first | fail))  | (refine sx ?_))); refine jb4 ?_
    refine kc0 rfl rfl (fun _ _ _ _ => rfl) (fun _ _ _ _ => by simp only [jc1, implies_true, setD, bslF, je9, je1, List.zip_cons_cons, List.zip_nil_right, List.zip_nil_left, jc2, rng0, rng1, rng2, rng3, rng4, rng5, rng6, rng7, rng8, List.getD_cons_zero, List.getD_cons_succ, Nat.reduceLeDiff, decide_true, decide_false, List.all_cons, List.all_nil, dqF, nilF, jf9, jc5, Op.operands, Call.operands, evD, cD, gip, upd, look, List.map, List.map_cons, List.map_nil, binF, binI, shI, binS, unF, wD, kLo, kHi, kMod, jf8, jf5, jf6, je8, je7, je6, je5, lenF, lenD, je3, jd9, minF, je0, cutL, bndF, sub, nc, aggT, aggB, scB, tnth, elems, L_B, L_mk, List.getElem?_cons_zero, List.getElem?_cons_succ, reduceIte, reduceCtorEq, Option.isSome, List.toList_toArray, Nat.reduceAdd, Nat.reduceSub, Nat.reduceMul, Nat.reduceEqDiff, Nat.reduceLT, Nat.reduceBEq, mkF, mkG, Bool.and_true, Bool.true_and, Bool.and_false, Bool.false_and, beq_self_eq_true, mkC, Int.reduceToNat, Int.toNat_natCast, Int.reduceAdd, Int.reduceSub, Int.reduceMul, Nat.zero_add, Nat.add_zero, Nat.mul_one, and_true, true_and, Option.getD_some, Option.getD_none, ne_eq, not_true_eq_false, not_false_eq_true, decide_not, Bool.not_true, Bool.not_false, Int.reduceLT, Int.reduceLE, Int.reduceEq, Int.reduceNe, Int.reduceGT, Int.reduceGE, gt_iff_lt, ge_iff_le, Nat.reduceLT, Nat.reduceLeDiff, u32D, u8D, iD, bD, strD, ja6, jb1, ja5, ja3, ja4, ja2, ja1, jb2, jb0, Array.toList_append, List.cons_append, List.nil_append, hX]; exact rfl) rfl ?_ ?_ ?_
    · show jj2 l j ++ [[hsD [l.getD (2 * j) [], l.getD (2 * j + 1) []]]] <+: _
      rw [kg3]; exact qh5 l (by omega)
    · refine ji9 1 ?_; intro w0 A S0 f0; simp only [List.take, List.drop]; (repeat ((with_reducible show DR _ _ _ (_ :: _) _); first | (refine cx _ (envG _ _ _ _ _ _) rfl rfl rfl rfl rfl ?_ (hc := by first | fail))  | (refine sx ?_))); refine jb4 ?_; refine jo6 [0, 1, 2, 4, 30] (kl1 ?_)
      (repeat refine ja0 ?_); refine iffx ?_
      (repeat refine ja0 ?_); refine jb3 ?_
      (repeat refine ja0 ?_); refine rgx [0, 1, 2, 4] ?_
      exact ⟨_, m - 1, WeakX.refl _, by omega, j + 1, by omega, congrArg (·, true) (kg3 l j), by simp [iD, Int.mul_add, jg6]⟩
    · refine ji9 1 ?_; intro w0 A S0 f0; simp only [List.take, List.drop]; (repeat ((with_reducible show DR _ _ _ (_ :: _) _); first | (refine cx _ (envG _ _ _ _ _ _) rfl rfl rfl rfl rfl ?_ (hc := by first | fail))  | (refine sx ?_))); refine jb4 ?_; refine jo6 [0, 1, 2, 4, 30] (kl1 ?_)
      (repeat refine ja0 ?_); refine iftx ?_
      refine ja9 ?_
      exact ⟨.inr rfl, fun h => by cases h⟩
  · intro hc; (try simp only [hcs, ne_eq] at hc)
    obtain rfl : j = n := by omega
    (repeat refine ja0 ?_); refine je4 ?_
    exact ⟨.inl rfl, fun _ => rfl⟩
theorem vj8 (l : List (List UInt8)) (j : Nat) (h : 2 * j + 2 ≤ l.length) : upS (l.take (2 * (j + 1))) = upS (l.take (2 * j)) ++ [jm7 (l.getD (2 * j) []) (l.getD (2 * j + 1) [])] := by
  rw [show 2 * (j + 1) = 2 * j + 2 by omega, ← List.take_append_drop (2 * j) (l.take (2 * j + 2)), cut2 l j h, List.take_take, show min (2 * j) (2 * j + 2) = 2 * j by omega]
  exact qf3 _ _ _ (by rw [List.length_take]; omega)
theorem jx2 {l : List (List UInt8)} {n : Nat} (h : ∀ x ∈ l, x.length = n) {i : Nat} (hi : i < l.length) : (l.getD i []).length = n := by
  rw [List.getD_eq_getElem?_getD, List.getElem?_eq_getElem hi]
  exact h _ (List.getElem_mem hi)
set_option maxHeartbeats 4000000 in
theorem up_c (l : List (List UInt8)) (n : Nat) (hl : l.length = 2 * n) (hb : n ≤ 1000000) (h32 : ∀ x ∈ l, x.length = 32) : PC (jb8 Tryd.prog) 148 [rowD l] (rowD (upS l)) := by
  have hh : ∀ h, jg4 h = .arr .u8 32 (fun i => ((h.getD i 0).toNat : Int)) := fun _ => rfl
  have hX := and_true; refine jb6 Tryd.func148 rfl Tryd.ntmps148 Tryd.results148 rfl (by simp only [jb5, Nat.reduceAdd, u32D, u8D, iD, bD, strD, ja6, jb1, ja5, ja3, ja4, ja2, ja1, jb2, jb0]; exact rfl) ?_; intro w0 A
  have hX := And.intro jn2 (and_true)
  (repeat refine ja0 ?_); refine rgx [1, 2, 4] ?_
  (repeat refine ja0 ?_); refine rgx [1, 2, 3] ?_
  have hK := And.intro (vk1 l) trivial; (repeat refine ja0 ?_); refine rgx [1, 2, 3, 10] ?_
  (repeat refine ja0 ?_); refine jb9 ?_
  refine jk4 (fun _ _ _ _ => Weak.nil_ownC 2 23 32 rfl) ?_
  refine ju4 (items := jj2 l n) [0, 1, 2] [1, 2, 3] (fun pre => [some (.one (rowD l)), some (.one (.cons (.v (.slice none 0 0)) (.cons (.v .nilFunc) .nil))), some (.one (.cons (.own 3 pre.length 23 32) (.cons (.fn 128 .nil) .nil))), some (.row ((upS (l.take (2 * pre.length))).map jg4) 23 32)]) (fun _ _ => False)
    (vr4 l n hl hb) (by kernel_rfl) rfl (fun _ _ _ _ => rfl) rfl rfl rfl rfl rfl (fun x hx => ?_) (fun M L pre x hx => ?_) ?_ (fun _ _ h => h.elim)
  · simp only [jj2, List.mem_map] at hx; obtain ⟨j, _, rfl⟩ := hx; rfl
  · obtain ⟨hj, rfl⟩ := qr2 hx
    have ha := jx2 h32 (i := 2 * pre.length) (by omega)
    have hb := jx2 h32 (i := 2 * pre.length + 1) (by omega)
    have hu := vj8 l pre.length (by omega)
    have hul : (upS (l.take (2 * pre.length))).length = pre.length := by rw [js5, List.length_take]; omega
    generalize l.getD (2 * pre.length) [] = a at *
    generalize l.getD (2 * pre.length + 1) [] = b at *
    refine jw5 [1, 2, 3, 11] ?_
    (repeat refine ja0 ?_); refine rgx [1, 3, 4] ?_
    intro M2
    (repeat refine ja0 ?_); refine jb9 ?_
    have hX := And.intro hul (jg6)
    have hK := And.intro (kr8 a b ha hb) trivial; (repeat refine ja0 ?_); refine rtx 12 [] ?_
    exact .inl ⟨rfl, _, WeakX.refl _, by rw [List.length_append, List.length_singleton, hu]; simp [rowD, hsD, kil, mk]⟩
  · rw [kk0, List.take_of_length_le (by omega)]
    have hul : (upS l).length = n := by rw [js5]; omega
    have hX := And.intro jn2 (and_true)
    (repeat refine ja0 ?_); refine rgx [2] ?_
    (repeat refine ja0 ?_); refine ja9 ?_; refine retx ?_; (try dsimp only [outV, ja8])
    refine vm2 rfl rfl rfl (fun i hi => ?_)
    rcases (show i = 0 ∨ i = 1 from by have : i < 2 := hi; omega) with rfl | rfl
    · show Fin1 _ (.own 3 n 23 32) (.sl (upS l) ([] : List UInt8) jg4)
      refine vn2 rfl rfl (jl0 rfl (by simp only [elems, List.getElem?_cons_zero, List.getElem?_cons_succ]; exact rfl) (by simp [hul]) ?_ (fun _ => rfl))
      rw [List.take_of_length_le (by simp [hul])]
    · exact qw1 rfl
def upN (l : List (List UInt8)) : Nat → List (List UInt8)
  | 0 => l
  | j + 1 => upS (upN l j)
theorem kt1 (l : List (List UInt8)) (k j : Nat) (h : l.length = 2 ^ k) (hj : j ≤ k) : (upN l j).length = 2 ^ (k - j) := by
  induction j with
  | zero => exact h
  | succ j ih =>
    simp only [upN, js5]
    rw [ih (by omega), show k - j = (k - (j + 1)) + 1 by omega, Nat.pow_succ]
    omega
theorem qj2 (l : List (List UInt8)) (h : ∀ x ∈ l, x.length = 32) : ∀ j, ∀ x ∈ upN l j, x.length = 32
  | 0 => h
  | j + 1 => kq7 _
theorem qf2 : ∀ (k j : Nat) (l : List (List UInt8)), j ≤ k → jm3 k l = jm3 (k - j) (upN l j)
  | k, 0, l, _ => rfl
  | k, j + 1, l, h => by
    rw [qf2 k j l (by omega), show k - j = (k - (j + 1)) + 1 by omega]
    rfl
def levI (l : List (List UInt8)) (k : Nat) : List (List D) := (List.range k).map fun (j : Nat) => [hsD (upN l j)]
theorem qu8 (l : List (List UInt8)) (k : Nat) : levI l k ++ [[hsD (upN l k)]] = levI l (k + 1) := by simp [levI, List.range_succ]
theorem vb2 (l : List (List UInt8)) {k m : Nat} (h : k ≤ m) : levI l k <+: levI l m := by
  obtain ⟨d, rfl⟩ := Nat.exists_eq_add_of_le h
  refine ⟨(List.range d).map fun (j : Nat) => [hsD (upN l (k + j))], ?_⟩
  simp only [levI, List.range_add, List.map_append, List.map_map]
  rfl
theorem qf0 (l : List (List UInt8)) (k : Nat) : (levI l k).length = k := by simp [levI]
theorem vo4 {l : List (List UInt8)} {pre : List (List D)} {x : List D} {m : Nat} (h : pre ++ [x] <+: levI l m) : pre.length < m ∧ x = [hsD (upN l pre.length)] := by
  have hl := h.length_le
  rw [qf0] at hl
  simp at hl
  refine ⟨by omega, ?_⟩
  have h1 := h.getElem (i := pre.length) (by simp)
  rw [List.getElem_append_right (by omega)] at h1
  simp only [Nat.sub_self, List.getElem_singleton] at h1
  rw [h1]
  simp [levI]
theorem vb1 (l : List (List UInt8)) : PC (jb8 Tryd.prog) 176 [rowD l] (.fn 206 (jh5 [.ip (rowD l)])) := by
  have hX := and_true; refine jb6 Tryd.func176 rfl Tryd.ntmps176 Tryd.results176 rfl (by simp only [jb5, Nat.reduceAdd, u32D, u8D, iD, bD, strD, ja6, jb1, ja5, ja3, ja4, ja2, ja1, jb2, jb0]; exact rfl) ?_; intro w0 A
  have hX := And.intro jn2 (and_true)
  (repeat refine ja0 ?_); refine rgx [1] ?_
  (repeat refine ja0 ?_); refine rgx [2] ?_
  (repeat refine ja0 ?_); refine ja9 ?_; refine retx ?_; (try dsimp only [outV, ja8])
  exact ki0 rfl rfl rfl
theorem ji1 {k : Nat} (h : k ≤ 7) : 2 ^ k ≤ 128 := Nat.le_trans (Nat.pow_le_pow_right (by omega) h) (by decide)
set_option maxHeartbeats 4000000 in
theorem vk5 (l : List (List UInt8)) (ht : Nat) (hl : l.length = 2 ^ ht) (hk : ht ≤ 7) (h32 : ∀ x ∈ l, x.length = 32) : SeqX (jb8 Tryd.prog) 206 (jh5 [.ip (rowD l)]) (levI l ht) := by
  have hX := and_true; refine kh8 Tryd.func206 rfl Tryd.ntmps206 Tryd.results206 rfl rfl rfl ?_; intro k; refine jv7 (by simp only [jb5, Nat.reduceAdd, u32D, u8D, iD, bD, strD, ja6, jb1, ja5, ja3, ja4, ja2, ja1, jb2, jb0]; exact rfl) ?_
  have hX := And.intro jn2 (and_true)
  (repeat refine ja0 ?_); refine rgx [0, 3] ?_
  (repeat refine ja0 ?_); refine jb9 ?_
  (repeat refine ja0 ?_); refine jf4 (fun m g st => ∃ j, j + m = ht ∧ g = (levI l j, true) ∧ st = mk [(0, .v (.func (.yield k.l) #[] #[])), (3, .ptr 0 0)] [some (.one (rowD (upN l j)))]) ht ⟨_, WeakX.refl _, 0, by omega, rfl, rfl⟩ ?_
  rintro m _ _ ⟨j, hj, rfl, rfl⟩
  have hlen := kt1 l ht j hl (by omega)
  have hall := qj2 l h32 j
  have hpb := ji1 hk
  have hpj := ji1 (show ht - j ≤ 7 by omega)
  have hsuc : upN l (j + 1) = upS (upN l j) := rfl
  have hi := qu8 l j
  have hpr := fun h => vb2 l (k := j + 1) (m := ht) h
  rw [← hi] at hpr
  generalize hu : upN l j = u at *
  have hX := And.intro jn2 (and_true)
  (repeat refine ja0 ?_); refine rgx [0, 3, 8] ?_
  (repeat refine ja0 ?_); refine ifx ?_ ?_
  · intro hc; (try simp only [hcs, ne_eq] at hc)
    have hjk : j < ht := by
      rcases Nat.lt_or_ge j ht with h | h
      · exact h
      · rw [show ht - j = 0 by omega] at hlen; omega
    have hev : u.length = 2 * 2 ^ (ht - (j + 1)) := by rw [hlen, show ht - j = (ht - (j + 1)) + 1 by omega, Nat.pow_succ]; omega
    (repeat refine ja0 ?_); refine jb3 ?_
    (repeat refine ja0 ?_); refine jb9 ?_
    have hX := And.intro jn2 (and_true)
    (repeat refine ja0 ?_); refine ka2 ?_; refine ji9 3 ?_; intro w0 A S0 f0; simp only [List.take, List.drop]; (repeat ((with_reducible show DR _ _ _ (_ :: _) _); first | (refine cx _ (envG _ _ _ _ _ _) rfl rfl rfl rfl rfl ?_ (hc := by first | fail))  | (refine sx ?_))); refine jb4 ?_
    refine kc0 rfl rfl (fun _ _ _ _ => rfl) (fun _ _ _ _ => by simp only [jc1, implies_true, setD, bslF, je9, je1, List.zip_cons_cons, List.zip_nil_right, List.zip_nil_left, jc2, rng0, rng1, rng2, rng3, rng4, rng5, rng6, rng7, rng8, List.getD_cons_zero, List.getD_cons_succ, Nat.reduceLeDiff, decide_true, decide_false, List.all_cons, List.all_nil, dqF, nilF, jf9, jc5, Op.operands, Call.operands, evD, cD, gip, upd, look, List.map, List.map_cons, List.map_nil, binF, binI, shI, binS, unF, wD, kLo, kHi, kMod, jf8, jf5, jf6, je8, je7, je6, je5, lenF, lenD, je3, jd9, minF, je0, cutL, bndF, sub, nc, aggT, aggB, scB, tnth, elems, L_B, L_mk, List.getElem?_cons_zero, List.getElem?_cons_succ, reduceIte, reduceCtorEq, Option.isSome, List.toList_toArray, Nat.reduceAdd, Nat.reduceSub, Nat.reduceMul, Nat.reduceEqDiff, Nat.reduceLT, Nat.reduceBEq, mkF, mkG, Bool.and_true, Bool.true_and, Bool.and_false, Bool.false_and, beq_self_eq_true, mkC, Int.reduceToNat, Int.toNat_natCast, Int.reduceAdd, Int.reduceSub, Int.reduceMul, Nat.zero_add, Nat.add_zero, Nat.mul_one, and_true, true_and, Option.getD_some, Option.getD_none, ne_eq, not_true_eq_false, not_false_eq_true, decide_not, Bool.not_true, Bool.not_false, Int.reduceLT, Int.reduceLE, Int.reduceEq, Int.reduceNe, Int.reduceGT, Int.reduceGE, gt_iff_lt, ge_iff_le, Nat.reduceLT, Nat.reduceLeDiff, u32D, u8D, iD, bD, strD, ja6, jb1, ja5, ja3, ja4, ja2, ja1, jb2, jb0, Array.toList_append, List.cons_append, List.nil_append, hX]; exact rfl) rfl ?_ ?_ ?_
    · exact hpr (by omega)
    · refine ji9 1 ?_; intro w0 A S0 f0; simp only [List.take, List.drop]; (repeat ((with_reducible show DR _ _ _ (_ :: _) _); first | (refine cx _ (envG _ _ _ _ _ _) rfl rfl rfl rfl rfl ?_ (hc := by first | fail))  | (refine sx ?_))); refine jb4 ?_; refine jo6 [0, 3, 15] (kl1 ?_)
      (repeat refine ja0 ?_); refine iffx ?_
      (repeat refine ja0 ?_); refine jb3 ?_
      (repeat refine ja0 ?_); refine rgx [0, 16] ?_
      (repeat refine ja0 ?_); refine rgx [0, 3] ?_
      (repeat refine ja0 ?_); refine jc4 [0, 3] ?_; intro w0 A S0 f0; (repeat ((with_reducible show DR _ _ _ (_ :: _) _); first | (refine cx _ (envG _ _ _ _ _ _) rfl rfl rfl rfl rfl ?_ (hc := by first | exact up_c u _ hev (by omega) hall))  | (refine sx ?_))); refine jb4 ?_; refine kl1 ?_
      refine ⟨_, m - 1, WeakX.shift rfl rfl, by omega, j + 1, by omega, congrArg (·, true) hi, ?_⟩
      rw [hsuc]; rfl
    · refine ji9 1 ?_; intro w0 A S0 f0; simp only [List.take, List.drop]; (repeat ((with_reducible show DR _ _ _ (_ :: _) _); first | (refine cx _ (envG _ _ _ _ _ _) rfl rfl rfl rfl rfl ?_ (hc := by first | fail))  | (refine sx ?_))); refine jb4 ?_; refine jo6 [0, 3, 15] (kl1 ?_)
      (repeat refine ja0 ?_); refine iftx ?_
      refine ja9 ?_
      exact ⟨.inr rfl, fun h => by cases h⟩
  · intro hc; (try simp only [hcs, ne_eq] at hc)
    obtain rfl : j = ht := by
      rcases Nat.lt_or_ge j ht with h | h
      · exfalso
        have : 2 ^ (ht - j) ≥ 2 ^ 1 := Nat.pow_le_pow_right (by omega) (by omega)
        omega
      · omega
    (repeat refine ja0 ?_); refine je4 ?_
    exact ⟨.inl rfl, fun _ => rfl⟩
theorem qn1 {k : Nat} (h : k ≤ 7) : fitB (2 ^ k) = true := by
  have : ∀ k : _root_.Fin 8, fitB (2 ^ k.val) = true := by decide +kernel
  exact this ⟨k, by omega⟩
def hzD : D := .arr .u8 32 (fun _ => 0)
theorem jk8 : hzD = .arr .u8 32 (fun _ => 0) := rfl
def heD (h : List UInt8) (e : Int) : D := .tup (.cons (jg4 h) (.cons (iD e) .nil))
def hnD : D := .tup (.cons hzD (.cons (iD 1) .nil))
set_option maxHeartbeats 4000000 in
theorem vf3 (l : List (List UInt8)) (k : Nat) (hl : l.length = 2 ^ k) (hk : k ≤ 7) (h32 : ∀ x ∈ l, x.length = 32) : PC (jb8 Tryd.prog) 111 [hsD l] (heD (jm3 k l) 0) := by
  have hf : fitB l.length = true := by rw [hl]; exact qn1 hk
  have hh : ∀ h, jg4 h = .arr .u8 32 (fun i => ((h.getD i 0).toNat : Int)) := fun _ => rfl
  have hX := and_true; refine jb6 Tryd.func111 rfl Tryd.ntmps111 Tryd.results111 rfl (by simp only [jb5, Nat.reduceAdd, u32D, u8D, iD, bD, strD, ja6, jb1, ja5, ja3, ja4, ja2, ja1, jb2, jb0]; exact rfl) ?_; intro w0 A
  have hX := And.intro jg6 (hf)
  have hK := And.intro (qy7 l.length) trivial; (repeat refine ja0 ?_); refine rgx [0, 2] ?_
  (repeat refine ja0 ?_); refine rgx [0, 2, 8] ?_
  (repeat refine ja0 ?_); refine iffx ?_
  (repeat refine ja0 ?_); refine jb3 ?_
  have hX := And.intro jg6 (hf)
  (repeat refine ja0 ?_); refine rgx [2, 4] ?_
  (repeat refine ja0 ?_); refine jb9 ?_
  (repeat refine ja0 ?_); refine jf4 (fun m _ st => ∃ j, j + m = k ∧ st = mk [(2, .ptr 0 0), (4, .ptr 1 0)] [some (.one hzD), some (.one (rowD (upN l j)))]) k ⟨_, WeakX.refl _, 0, by omega, rfl⟩ ?_
  rintro m _ _ ⟨j, hj, rfl⟩
  have hlen := kt1 l k j hl (by omega)
  have hall := qj2 l h32 j
  have hpj := ji1 (show k - j ≤ 7 by omega)
  have hsuc : upN l (j + 1) = upS (upN l j) := rfl
  have hro := qf2 k j l (by omega)
  generalize hu : upN l j = u at *
  have hX := And.intro jn2 (jk8)
  (repeat refine ja0 ?_); refine rgx [2, 4, 15] ?_
  (repeat refine ja0 ?_); refine ifx ?_ ?_
  · intro hc; (try simp only [hcs, ne_eq] at hc)
    have hjk : j < k := by
      rcases Nat.lt_or_ge j k with h | h
      · exact h
      · rw [show k - j = 0 by omega] at hlen; omega
    have hev : u.length = 2 * 2 ^ (k - (j + 1)) := by rw [hlen, show k - j = (k - (j + 1)) + 1 by omega, Nat.pow_succ]; omega
    (repeat refine ja0 ?_); refine jb3 ?_
    (repeat refine ja0 ?_); refine jb9 ?_
    have hX := And.intro jn2 (jk8)
    (repeat refine ja0 ?_); refine jc4 [2, 4] ?_; intro w0 A S0 f0; (repeat ((with_reducible show DR _ _ _ (_ :: _) _); first | (refine cx _ (envG _ _ _ _ _ _) rfl rfl rfl rfl rfl ?_ (hc := by first | exact up_c u _ hev (by omega) hall))  | (refine sx ?_))); refine jb4 ?_; refine kl1 ?_
    refine ⟨_, m - 1, WeakX.refl _, by omega, j + 1, by omega, ?_⟩
    rw [hsuc]; rfl
  · intro hc; (try simp only [hcs, ne_eq] at hc)
    obtain rfl : j = k := by
      rcases Nat.lt_or_ge j k with h | h
      · exfalso
        have : 2 ^ (k - j) ≥ 2 ^ 1 := Nat.pow_le_pow_right (by omega) (by omega)
        omega
      · omega
    have hul : 0 < u.length := by rw [hlen, Nat.sub_self]; decide
    rw [hro, Nat.sub_self]
    show DX _ _ _ _ _ _
    (repeat refine ja0 ?_); refine je4 ?_
    have hX := And.intro jn2 (jk8)
    (repeat refine ja0 ?_); refine rgx [2, 3] ?_
    (repeat refine ja0 ?_); refine ja9 ?_; refine retx ?_; (try dsimp only [outV, ja8])
    exact ja7 rfl
theorem xor1 (x : Nat) : x ^^^ 1 = jv3 x := by
  have h1 : (x ^^^ 1) / 2 = x / 2 := by rw [Nat.xor_div_two]; simp
  have h2 : (x ^^^ 1) % 2 = 1 ↔ ¬ (x % 2 = 1) := by rw [Nat.xor_mod_two_eq_one]; simp
  unfold jv3
  split <;> omega
theorem shr1 (x : Nat) : (x : Int) / (2 : Int) ^ 1 = ((x / 2 : Nat) : Int) := by omega
def jy4 (l : List (List UInt8)) (i j : Nat) : List (List UInt8) := (List.range j).map fun t => (upN l t).getD (jv3 (i / 2 ^ t)) []
theorem qt2 (l : List (List UInt8)) : ∀ j, upN (upS l) j = upS (upN l j)
  | 0 => rfl
  | j + 1 => by simp only [upN]; rw [qt2 l j]
theorem kz6 : ∀ (k : Nat) (l : List (List UInt8)) (i : Nat), jy4 l i k = jn3 k l i
  | 0, _, _ => rfl
  | k + 1, l, i => by
    have ih := kz6 k (upS l) (i / 2)
    simp only [jn3]
    rw [← ih]
    unfold jy4
    rw [List.range_succ_eq_map, List.map_cons, List.map_map]
    congr 1
    · simp [upN]
    · apply List.map_congr_left
      intro t _
      simp only [Function.comp, qt2]
      rw [Nat.div_div_eq_div_mul, show 2 * 2 ^ t = 2 ^ (t + 1) by rw [Nat.pow_succ]; omega]
      rfl
theorem kv3 (l : List (List UInt8)) (i j : Nat) : (jy4 l i j).length = j := by simp [jy4]
theorem qp7 (l : List (List UInt8)) (i j : Nat) : jy4 l i (j + 1) = jy4 l i j ++ [(upN l j).getD (jv3 (i / 2 ^ j)) []] := by simp [jy4, List.range_succ]
def psD (l : List (List UInt8)) (e : Int) : D := .tup (.cons (hsD l) (.cons (iD e) .nil))
theorem qn2 (i : Nat) : decide ((i : Int) < 0) = false := decide_eq_false (by omega)
set_option maxHeartbeats 4000000 in
theorem ve6 (l : List (List UInt8)) (k i : Nat) (hl : l.length = 2 ^ k) (hk : k ≤ 7) (h32 : ∀ x ∈ l, x.length = 32) (hi : i < 2 ^ k) : PC (jb8 Tryd.prog) 149 [hsD l, iD (i : Int)] (psD (jn3 k l i) 0) := by
  have hb : fitB l.length = true := by rw [hl]; exact qn1 hk
  have hh : ∀ h, jg4 h = .arr .u8 32 (fun i => ((h.getD i 0).toNat : Int)) := fun _ => rfl
  have d1 := qn2 i
  have d2 : decide ((l.length : Int) ≤ (i : Int)) = false := decide_eq_false (by omega)
  have hp := ji1 hk
  rw [← kz6]
  unfold psD
  have hX := and_true; refine jb6 Tryd.func149 rfl Tryd.ntmps149 Tryd.results149 rfl (by simp only [jb5, Nat.reduceAdd, u32D, u8D, iD, bD, strD, ja6, jb1, ja5, ja3, ja4, ja2, ja1, jb2, jb0]; exact rfl) ?_; intro w0 A
  have hX := And.intro jg6 (And.intro hb (And.intro d1 (d2)))
  have hK := And.intro (qy7 l.length) trivial; (repeat refine ja0 ?_); refine rgx [0, 3, 7] ?_
  (repeat refine ja0 ?_); refine rggx [0, 3, 7, 21] ?_
  (repeat refine ja0 ?_); refine iffx ?_
  (repeat refine ja0 ?_); refine jb3 ?_
  have hX := And.intro jg6 (and_true)
  (repeat refine ja0 ?_); refine rgx [0, 3, 6] ?_
  have hX := And.intro jg6 (jn2)
  have hK := And.intro (vb1 l) trivial; (repeat refine ja0 ?_); refine rgx [3, 6, 24] ?_
  (repeat refine ja0 ?_); refine jb9 ?_
  refine jk4 (fun _ _ _ _ => Weak.nil_ownB 1 23 32 rfl) ?_
  refine ju4 (items := levI l k) [0, 1] [3, 6] (fun pre => [some (.one (iD ((i / 2 ^ pre.length : Nat) : Int))), some (.one (.own 2 pre.length 23 32)), some (.row ((jy4 l i pre.length).map jg4) 23 32)]) (fun _ _ => False)
    (vk5 l k hl hk h32) (by kernel_rfl) rfl (fun _ _ _ _ => rfl) rfl ?_ rfl rfl rfl (fun x hx => ?_) (fun M L pre x hx => ?_) ?_ (fun _ _ h => h.elim)
  · simp only [List.length_nil, Nat.pow_zero, Nat.div_one]; rfl
  · simp only [levI, List.mem_map] at hx; obtain ⟨j, _, rfl⟩ := hx; rfl
  · obtain ⟨hj, rfl⟩ := vo4 hx
    have hlen := kt1 l k pre.length hl (by omega)
    have hpq := kv3 l i pre.length
    have hps := qp7 l i pre.length
    have hfl : jv3 (i / 2 ^ pre.length) < 2 ^ (k - pre.length) := by
      have e : 2 ^ k = 2 ^ pre.length * 2 ^ (k - pre.length) := by rw [← Nat.pow_add]; congr 1; omega
      have e2 : i / 2 ^ pre.length < 2 ^ (k - pre.length) := Nat.div_lt_of_lt_mul (by omega)
      obtain ⟨z, e3⟩ : ∃ z, 2 ^ (k - pre.length) = 2 * z := ⟨2 ^ (k - pre.length - 1), by rw [← Nat.pow_succ']; congr 1; omega⟩
      clear e
      generalize 2 ^ (k - pre.length) = x at e2 e3 ⊢
      generalize i / 2 ^ pre.length = y at e2 ⊢
      unfold jv3
      split <;> omega
    have hle : i / 2 ^ pre.length ≤ 128 := Nat.le_trans (Nat.div_le_self _ _) (by omega)
    have hx1 := xor1 (i / 2 ^ pre.length)
    have hsh := shr1 (i / 2 ^ pre.length)
    have hdd : i / 2 ^ (pre.length + 1) = i / 2 ^ pre.length / 2 := by rw [Nat.pow_succ, Nat.div_div_eq_div_mul]
    rw [← hlen] at hfl
    generalize upN l pre.length = u at *
    generalize i / 2 ^ pre.length = y at *
    refine jw5 [3, 6, 25] ?_
    (repeat refine ja0 ?_); refine rgx [3, 6, 7] ?_
    intro M2
    (repeat refine ja0 ?_); refine jb9 ?_
    have hX := And.intro jg6 (And.intro hx1 (hpq))
    (repeat refine ja0 ?_); refine rtx 7 [3] ?_
    have hX := And.intro jg6 (hsh)
    (repeat refine ja0 ?_); refine rgx [] ?_
    exact .inl ⟨rfl, _, WeakX.refl _, by rw [List.length_append, List.length_singleton, hdd, hps]; simp [mk, iD, hh]⟩
  · rw [qf0]
    have hpq := kv3 l i k
    have hX := And.intro hpq (and_true)
    (repeat refine ja0 ?_); refine rgx [4, 5] ?_
    (repeat refine ja0 ?_); refine ja9 ?_; refine retx ?_; (try dsimp only [outV, ja8])
    refine jp5 (.cons rfl rfl (jl0 rfl (by simp only [elems, List.getElem?_cons_zero, List.getElem?_cons_succ]; exact rfl) (by simp [hpq]) ?_ (fun _ => rfl)) (.cons rfl rfl (ja7 rfl) .nil))
    rw [List.take_of_length_le (by simp [hpq])]
theorem and1 (x : Nat) : x &&& 1 = x % 2 := Nat.and_two_pow_sub_one_eq_mod x 1
theorem qe3 {p : List (List UInt8)} {k : Nat} (h : k < p.length) : p.take (k + 1) = p.take k ++ [p.getD k []] := by
  rw [List.take_add_one, List.getD_eq_getElem?_getD, List.getElem?_eq_getElem h]
  rfl
theorem va6 (i : Nat) : decide ((i : Int) < 0) = false := decide_eq_false (by omega)
theorem vl8 (x : Nat) : decide (((x % 2 : Nat) : Int) = 0) = decide (x % 2 = 0) := decide_eq_decide.2 (by omega)
set_option maxHeartbeats 4000000 in
theorem qu5 (leaf : List UInt8) (p : List (List UInt8)) (i : Nat) (hlf : leaf.length = 32) (hp : p.length ≤ 7) (hi : i < 2 ^ p.length) (h32 : ∀ x ∈ p, x.length = 32) : PC (jb8 Tryd.prog) 78 [jg4 leaf, iD (i : Int), hsD p] (heD (jl2 p i leaf) 0) := by
  have hh : ∀ h, jg4 h = .arr .u8 32 (fun i => ((h.getD i 0).toNat : Int)) := fun _ => rfl
  have d0 : decide ((7 : Int) < (p.length : Int)) = false := decide_eq_false (by omega)
  have d1 := va6 i
  have hpb := ji1 hp
  have e0 : (1 : Int) * 2 ^ p.length = ((2 ^ p.length : Nat) : Int) := by simp
  have d2 : decide (((2 ^ p.length : Nat) : Int) ≤ (i : Int)) = false := decide_eq_false (by omega)
  have hX := and_true; refine jb6 Tryd.func78 rfl Tryd.ntmps78 Tryd.results78 rfl (by simp only [jb5, Nat.reduceAdd, u32D, u8D, iD, bD, strD, ja6, jb1, ja5, ja3, ja4, ja2, ja1, jb2, jb0]; exact rfl) ?_; intro w0 A
  have hX := And.intro jg6 (And.intro hh (And.intro d0 (And.intro d1 (And.intro e0 (And.intro d2 (Int.mul_one))))))
  (repeat refine ja0 ?_); refine rgx [1, 2, 3, 6] ?_
  (repeat refine ja0 ?_); refine rggx [1, 2, 3, 6, 23] ?_
  (repeat refine ja0 ?_); refine iffx ?_
  (repeat refine ja0 ?_); refine jb3 ?_
  (repeat refine ja0 ?_); refine rgx [1, 3, 6, 25, 26, 27] ?_
  (repeat refine ja0 ?_); refine jb9 ?_
  (repeat refine ja0 ?_); refine jf4 (fun m _ st => ∃ k, k + m = p.length ∧ st = mk [(1, iD ((i / 2 ^ k : Nat) : Int)), (3, .ptr 0 0), (6, .ptr 1 0), (25, hsD p), (26, iD (p.length : Int)), (27, iD (k : Int))] [some (.one (jg4 (jl2 (p.take k) i leaf))), some (.one hzD)]) p.length ⟨_, WeakX.refl _, 0, by omega, ?_⟩ ?_
  · rw [Nat.pow_zero, Nat.div_one]; rfl
  rintro m _ _ ⟨k, hk, rfl⟩
  have hX := And.intro jg6 (And.intro hh (jk8))
  (repeat refine ja0 ?_); refine rgx [1, 3, 6, 25, 26, 27, 28] ?_
  (repeat refine ja0 ?_); refine ifx ?_ ?_
  · intro hc; (try simp only [hcs, ne_eq] at hc)
    have hkn : k < p.length := by omega
    have hs := kj4 (p.take k) (p.getD k []) i leaf
    rw [← qe3 hkn, List.length_take, Nat.min_eq_left (by omega)] at hs
    have hcl := kc1 (p.take k) i leaf hlf
    have hxl := jx2 h32 hkn
    have hdd : i / 2 ^ (k + 1) = i / 2 ^ k / 2 := by rw [Nat.pow_succ, Nat.div_div_eq_div_mul]
    have hyl : i / 2 ^ k ≤ i := Nat.div_le_self _ _
    generalize jl2 (p.take k) i leaf = at' at *
    generalize hxx : p.getD k [] = x at *
    generalize i / 2 ^ k = y at *
    have a1 := and1 y
    have s1 := shr1 y
    have dm := vl8 y
    (repeat refine ja0 ?_); refine jb3 ?_
    (repeat refine ja0 ?_); refine jb9 ?_
    have hX := And.intro jg6 (And.intro hh (And.intro jk8 (And.intro hxx (And.intro a1 (And.intro s1 (dm))))))
    (repeat refine ja0 ?_); refine rgx [1, 3, 6, 9, 25, 26, 27] ?_
    (repeat refine ja0 ?_); refine rgx [1, 3, 6, 9, 25, 26, 27, 33] ?_
    (repeat refine ja0 ?_); refine ifx ?_ ?_
    · intro hc2; have hc2 := of_decide_eq_true hc2
      rw [if_pos hc2] at hs
      have hX := And.intro jg6 (And.intro hh (And.intro jk8 (s1)))
      have hK := And.intro (kr8 at' x hcl hxl) trivial; (repeat refine ja0 ?_); refine rgx [1, 3, 6, 25, 26, 27] ?_
      (repeat refine ja0 ?_); refine rgx [1, 3, 6, 25, 26, 27] ?_
      (repeat refine ja0 ?_); refine rgx [1, 3, 6, 25, 26, 27] ?_
      refine ⟨_, m - 1, WeakX.take 2 rfl rfl rfl, by omega, k + 1, by omega, ?_⟩
      rw [hs, hdd]; simp [iD, jg6, jk8, hh]
    · intro hc2; have hc2 := of_decide_eq_false hc2
      rw [if_neg hc2] at hs
      have hX := And.intro jg6 (And.intro hh (And.intro jk8 (s1)))
      have hK := And.intro (kr8 x at' hxl hcl) trivial; (repeat refine ja0 ?_); refine rgx [1, 3, 6, 25, 26, 27] ?_
      (repeat refine ja0 ?_); refine rgx [1, 3, 6, 25, 26, 27] ?_
      (repeat refine ja0 ?_); refine rgx [1, 3, 6, 25, 26, 27] ?_
      refine ⟨_, m - 1, WeakX.take 2 rfl rfl rfl, by omega, k + 1, by omega, ?_⟩
      rw [hs, hdd]; simp [iD, jg6, jk8, hh]
  · intro hc; (try simp only [hcs, ne_eq] at hc)
    obtain rfl : k = p.length := by omega
    (repeat refine ja0 ?_); refine je4 ?_
    rw [List.take_length]
    have hX := And.intro jg6 (And.intro hh (jk8))
    (repeat refine ja0 ?_); refine rgx [6, 7] ?_
    (repeat refine ja0 ?_); refine ja9 ?_; refine retx ?_; (try dsimp only [outV, ja8])
    exact ja7 rfl
end Go.Proofs.YtcdnpmpjeeiapaaDoor
