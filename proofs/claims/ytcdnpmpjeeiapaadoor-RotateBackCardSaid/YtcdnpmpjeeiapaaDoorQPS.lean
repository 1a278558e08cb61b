/- The document's ring signs; sums that bytes have. A signature of a key is verified. A signature of a key is verified, as the document says. -/
import Derived.Test.YtcdnpmpjeeiapaaDoorQPD
import Derived.Test.YtcdnpmpjeeiapaaDoorQPR
import Derived.Test.YtcdnpmpjeeiapaaDoorQPO
set_option linter.unusedSimpArgs false
set_option linter.unusedVariables false
set_option maxRecDepth 10000
namespace Go.Proofs.YtcdnpmpjeeiapaaDoor
open Go.RowKit


def jj3 (s : List UInt8) (j : Nat) : List (List UInt8) := (List.range j).map fun i => (s.drop (32 * i)).take 32
theorem kg6 (s : List UInt8) (j : Nat) : (jj3 s j).length = j := by simp [jj3]
theorem qq7 (s : List UInt8) (j : Nat) : jj3 s (j + 1) = jj3 s j ++ [(s.drop (32 * j)).take 32] := by simp [jj3, List.range_succ]
theorem qx1 (s : List UInt8) (j : Nat) (h : s.length = 32 * j) : ∀ x ∈ jj3 s j, x.length = 32 := by
  intro x hx
  simp only [jj3, List.mem_map, List.mem_range] at hx
  obtain ⟨i, hi, rfl⟩ := hx
  simp; omega
theorem kn5 : ∀ (p : List (List UInt8)), (∀ x ∈ p, x.length = 32) → jj3 p.flatten p.length = p
  | [], _ => rfl
  | x :: p, h => by
    have h1 := h x (by simp)
    have ih := kn5 p (fun y hy => h y (by simp [hy]))
    unfold jj3 at *
    rw [List.length_cons, List.range_succ_eq_map, List.map_cons, List.map_map]
    congr 1
    · simp only [Nat.mul_zero, List.drop_zero, List.flatten_cons]
      rw [List.take_append_of_le_length (by omega), List.take_of_length_le (by omega)]
    · rw [← ih]
      conv => lhs; rw [ih]
      apply List.map_congr_left
      intro i _
      simp only [Function.comp, List.flatten_cons]
      rw [show 32 * (i + 1) = 32 + 32 * i by omega, ← List.drop_drop, List.drop_left' h1]
set_option maxHeartbeats 8000000 in
theorem vt5 (s : List UInt8) (n : Nat) (hs : s.length = 32 * n) (hn : n ≤ 1000000) : PC (jb8 Tryd.prog) 79 [strD s] (hsD (jj3 s n)) := by
  have hh : ∀ h, jg4 h = .arr .u8 32 (fun i => ((h.getD i 0).toNat : Int)) := fun _ => rfl
  have hX := and_true; refine jb6 Tryd.func79 rfl Tryd.ntmps79 Tryd.results79 rfl (by simp only [jb5, Nat.reduceAdd, u32D, u8D, iD, bD, strD, ja6, jb1, ja5, ja3, ja4, ja2, ja1, jb2, jb0]; exact rfl) ?_; intro w0 A
  (repeat refine ja0 ?_); refine rgx [0] ?_
  (repeat refine ja0 ?_); refine rgx [0, 3] ?_
  (repeat refine ja0 ?_); refine jb9 ?_
  refine jk4 (fun _ _ _ _ => Weak.nil_own 3 23 32 rfl) ?_
  refine jf4 (fun j _ st => ∃ k, k + j = n ∧ st = mk [(0, strD (s.drop (32 * k))), (3, .own 0 k 23 32)] [some (.row ((jj3 s k).map jg4) 23 32)]) n ⟨_, WeakX.pick [0, 3], 0, by omega, ?_⟩ ?_
  · simp; rfl
  rintro j _ _ ⟨k, hk, rfl⟩
  have hdl : (s.drop (32 * k)).length = 32 * j := by rw [List.length_drop]; omega
  (repeat refine ja0 ?_); refine rgx [0, 3, 7] ?_
  (repeat refine ja0 ?_); refine ifx ?_ ?_
  · intro hc; (try simp only [hcs, ne_eq] at hc)
    have hj : 32 ≤ (s.drop (32 * k)).length := by omega
    have hcp := vd1 (s.drop (32 * k)) hj
    have hcl := kg6 s k
    have hcs := qq7 s k
    have hdd : (s.drop (32 * k)).drop 32 = s.drop (32 * (k + 1)) := by rw [List.drop_drop]; congr 1
    generalize s.drop (32 * k) = rs at *
    (repeat refine ja0 ?_); refine jb3 ?_
    (repeat refine ja0 ?_); refine jb9 ?_
    (repeat refine ja0 ?_); refine rgx [0, 3, 4] ?_
    generalize List.take 32 rs = x at *
    have hX := And.intro hcl (And.intro hh (hdd))
    (repeat refine ja0 ?_); refine jc4 [0, 3, 4] ?_; intro w0 A S0 f0; iterate 3 ((with_reducible show DR _ _ _ (_ :: _) _); first | (refine cx _ (envG _ _ _ _ _ _) rfl rfl rfl rfl rfl ?_ (hc := by first | fail))  | (refine sx ?_))
    refine ex rfl (vn7 32 rfl rfl rfl rfl rfl) ?_
    rw [hcp]
    (repeat ((with_reducible show DR _ _ _ (_ :: _) _); first | (refine cx _ (envG _ _ _ _ _ _) rfl rfl rfl rfl rfl ?_ (hc := by first | fail))  | (refine sx ?_))); refine jb4 ?_; refine kl1 ?_
    (repeat refine ja0 ?_); refine rgx [0, 3] ?_
    refine ⟨_, j - 1, WeakX.take 1 rfl rfl rfl, by omega, k + 1, by omega, ?_⟩
    rw [hcs]
    simp [strD, hh]
  · intro hc; (try simp only [hcs, ne_eq] at hc)
    obtain rfl : k = n := by omega
    have hcl := kg6 s k
    (repeat refine ja0 ?_); refine je4 ?_
    have hX := And.intro jg6 (and_true)
    (repeat refine ja0 ?_); refine rgx [2] ?_
    (repeat refine ja0 ?_); refine ja9 ?_; refine retx ?_; (try dsimp only [outV, ja8])
    refine jl0 rfl (by simp only [elems, List.getElem?_cons_zero]; exact rfl) (by simp [hcl]) ?_ (fun _ => rfl)
    rw [List.take_of_length_le (by simp [hcl])]
def verA (text sig : List UInt8) (m : Nat) : List UInt8 := jl2 (jj3 (sig.drop 1089) m) (sig.getD 0 0).toNat (recS text ((sig.take 1089).drop 1))
def verS (root text sig : List UInt8) (m : Nat) : Int := if verA text sig m = root then 0 else 9
theorem qd4 (text sig : List UInt8) : (recS text sig).length = 32 := jx0 _
theorem vf1 (text sig : List UInt8) (m : Nat) : (verA text sig m).length = 32 := kc1 _ _ _ (qd4 _ _)
set_option maxHeartbeats 8000000 in
theorem qq5 (root text sig : List UInt8) (m : Nat) (hr : root.length = 32) (hm : m ≤ 7) (hl : sig.length = 1089 + 32 * m) (hi : (sig.getD 0 0).toNat < 2 ^ m) (ht : text.length ≤ 1000000) :
    PC (jb8 Tryd.prog) 26 [jg4 root, iD (m : Int), strD text, strD sig] (iD (verS root text sig m)) := by
  have hh : ∀ h, jg4 h = .arr .u8 32 (fun i => ((h.getD i 0).toNat : Int)) := fun _ => rfl
  have cp := qy4 m sig hm hl hi
  have h88 : ((sig.take 1089).drop 1).length = 1088 := by simp; omega
  have cr := qs2 text ((sig.take 1089).drop 1) ht
  unfold recD at cr
  rw [if_pos h88, if_pos h88] at cr
  have hdl : (sig.drop 1089).length = 32 * m := by simp; omega
  have cs := vt5 (sig.drop 1089) m hdl (by omega)
  have hcl := kg6 (sig.drop 1089) m
  have cc := qu5 (recS text ((sig.take 1089).drop 1)) (jj3 (sig.drop 1089) m) (sig.getD 0 0).toNat (qd4 _ _) (by omega) (by rw [hcl]; exact hi) (qx1 _ _ hdl)
  have hal := vf1 text sig m
  have hv : jl2 (jj3 (sig.drop 1089) m) (sig.getD 0 0).toNat (recS text ((sig.take 1089).drop 1)) = verA text sig m := rfl
  rw [hv] at cc
  have hq := vo7 hal hr
  unfold verS
  unfold plD at cp
  unfold heD at cc
  generalize verA text sig m = at0 at *
  generalize jj3 (sig.drop 1089) m = ch at *
  generalize recS text ((sig.take 1089).drop 1) = lf at *
  generalize (sig.getD 0 0).toNat = ix at *
  by_cases hab : at0 = root
  · rw [if_pos hab]
    rw [decide_eq_true hab] at hq
    clear hab hv
    have hX := and_true; refine jb6 Tryd.func26 rfl Tryd.ntmps26 Tryd.results26 rfl (by simp only [jb5, Nat.reduceAdd, u32D, u8D, iD, bD, strD, ja6, jb1, ja5, ja3, ja4, ja2, ja1, jb2, jb0]; exact rfl) ?_; intro w0 A
    have hX := And.intro jg6 (And.intro hh (hq))
    have hK := And.intro (cp) (And.intro (cr) (And.intro (cs) (And.intro (cc) trivial))); (repeat refine ja0 ?_); refine rgx [1, 2, 3, 4] ?_
    (repeat refine ja0 ?_); refine rgx [2, 3, 4, 9, 10] ?_
    (repeat refine ja0 ?_); refine rgx [2, 3, 4, 9, 10, 20] ?_
    (repeat refine ja0 ?_); refine iffx ?_
    (repeat refine ja0 ?_); refine jb3 ?_
    (repeat refine ja0 ?_); refine rgx [3, 4, 9, 10, 11] ?_
    (repeat refine ja0 ?_); refine rgx [3, 4, 9, 10, 11, 30] ?_
    (repeat refine ja0 ?_); refine iffx ?_
    (repeat refine ja0 ?_); refine jb3 ?_
    (repeat refine ja0 ?_); refine qj0 [4, 10, 12] 7 rfl rfl rfl rfl rfl rfl rfl rfl rfl rfl rfl rfl (by kernel_rfl) rfl (by kernel_rfl) ?_; intro w0 A S0 f0; simp only [List.take, List.drop]; (repeat ((with_reducible show DRq2 _ _ _ (_ :: _) _); first | (refine qx2 _ rfl rfl rfl ?_) | (refine cx2 _ (envG _ _ _ _ _ _) rfl rfl rfl rfl rfl ?_ (hc := by first | exact cp | exact cr | exact cs | exact cc)))); refine vg5 _ _ _ ?_; (repeat ((with_reducible show DR _ _ _ (_ :: _) _); first | (refine cx _ (envG _ _ _ _ _ _) rfl rfl rfl rfl rfl ?_ (hc := by first | exact cp | exact cr | exact cs | exact cc))  | (refine sx ?_))); refine jb4 ?_; refine kl1 ?_
    (repeat refine ja0 ?_); refine rggx [47] ?_
    (repeat refine ja0 ?_); refine iffx ?_
    (repeat refine ja0 ?_); refine jb3 ?_
    (repeat refine ja0 ?_); refine rgx [8] ?_
    (repeat refine ja0 ?_); refine ja9 ?_; refine retx ?_; (try dsimp only [outV, ja8])
    exact ja7 rfl
  · rw [if_neg hab]
    rw [decide_eq_false hab] at hq
    clear hab hv
    have hX := and_true; refine jb6 Tryd.func26 rfl Tryd.ntmps26 Tryd.results26 rfl (by simp only [jb5, Nat.reduceAdd, u32D, u8D, iD, bD, strD, ja6, jb1, ja5, ja3, ja4, ja2, ja1, jb2, jb0]; exact rfl) ?_; intro w0 A
    have hX := And.intro jg6 (And.intro hh (hq))
    have hK := And.intro (cp) (And.intro (cr) (And.intro (cs) (And.intro (cc) trivial))); (repeat refine ja0 ?_); refine rgx [1, 2, 3, 4] ?_
    (repeat refine ja0 ?_); refine rgx [2, 3, 4, 9, 10] ?_
    (repeat refine ja0 ?_); refine rgx [2, 3, 4, 9, 10, 20] ?_
    (repeat refine ja0 ?_); refine iffx ?_
    (repeat refine ja0 ?_); refine jb3 ?_
    (repeat refine ja0 ?_); refine rgx [3, 4, 9, 10, 11] ?_
    (repeat refine ja0 ?_); refine rgx [3, 4, 9, 10, 11, 30] ?_
    (repeat refine ja0 ?_); refine iffx ?_
    (repeat refine ja0 ?_); refine jb3 ?_
    (repeat refine ja0 ?_); refine qj0 [4, 10, 12] 7 rfl rfl rfl rfl rfl rfl rfl rfl rfl rfl rfl rfl (by kernel_rfl) rfl (by kernel_rfl) ?_; intro w0 A S0 f0; simp only [List.take, List.drop]; (repeat ((with_reducible show DRq2 _ _ _ (_ :: _) _); first | (refine qx2 _ rfl rfl rfl ?_) | (refine cx2 _ (envG _ _ _ _ _ _) rfl rfl rfl rfl rfl ?_ (hc := by first | exact cp | exact cr | exact cs | exact cc)))); refine vg5 _ _ _ ?_; (repeat ((with_reducible show DR _ _ _ (_ :: _) _); first | (refine cx _ (envG _ _ _ _ _ _) rfl rfl rfl rfl rfl ?_ (hc := by first | exact cp | exact cr | exact cs | exact cc))  | (refine sx ?_))); refine jb4 ?_; refine kl1 ?_
    (repeat refine ja0 ?_); refine rggx [47] ?_
    (repeat refine ja0 ?_); refine iftx ?_
    (repeat refine ja0 ?_); refine rgx [8] ?_
    (repeat refine ja0 ?_); refine ja9 ?_; refine retx ?_; (try dsimp only [outV, ja8])
    exact ja7 rfl
theorem qr3 (root text sig : List UInt8) (n : Int) (hbad : badP n sig) :
    PC (jb8 Tryd.prog) 26 [jg4 root, iD n, strD text, strD sig] (iD 2) := by
  have hh : ∀ h, jg4 h = .arr .u8 32 (fun i => ((h.getD i 0).toNat : Int)) := fun _ => rfl
  have cp := qt6 n sig hbad
  unfold plN at cp
  have hX := and_true; refine jb6 Tryd.func26 rfl Tryd.ntmps26 Tryd.results26 rfl (by simp only [jb5, Nat.reduceAdd, u32D, u8D, iD, bD, strD, ja6, jb1, ja5, ja3, ja4, ja2, ja1, jb2, jb0]; exact rfl) ?_; intro w0 A
  have hX := And.intro hh (and_true)
  have hK := And.intro (cp) trivial; (repeat refine ja0 ?_); refine rgx [1, 2, 3, 4] ?_
  (repeat refine ja0 ?_); refine rgx [2, 3, 4, 9, 10] ?_
  (repeat refine ja0 ?_); refine rgx [2, 3, 4, 9, 10, 20] ?_
  (repeat refine ja0 ?_); refine iftx ?_
  (repeat refine ja0 ?_); refine rgx [8] ?_
  (repeat refine ja0 ?_); refine ja9 ?_; refine retx ?_; (try dsimp only [outV, ja8])
  exact ja7 rfl


end Go.Proofs.YtcdnpmpjeeiapaaDoor
