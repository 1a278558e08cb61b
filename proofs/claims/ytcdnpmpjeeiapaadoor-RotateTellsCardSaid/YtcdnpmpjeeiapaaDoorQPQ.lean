/- Keys: what is right, seeds, leaves. Which keys are right; places. -/
import Derived.Test.YtcdnpmpjeeiapaaDoorQPD
import Derived.Test.YtcdnpmpjeeiapaaDoorQPU
import Derived.Test.YtcdnpmpjeeiapaaDoorQPO
set_option linter.unusedSimpArgs false
set_option linter.unusedVariables false
set_option maxRecDepth 10000
namespace Go.Proofs.YtcdnpmpjeeiapaaDoor
open Go.RowKit
def keyD (s : List UInt8) (h n : Int) : D := .cons (strD s) (.cons (iD h) (.cons (iD n) .nil))
theorem jl5 (s : List UInt8) (h n : Int) : keyD s h n = .cons (.v (.string (B s))) (.cons (.v (.int .i64 h)) (.cons (.v (.int .i64 n)) .nil)) := rfl
def ki6 (h : Int) : Bool := decide (0 ≤ h) && decide (h ≤ 7)
theorem jk6 (h : Int) : PC (jb8 Tryd.prog) 124 [iD h] (bD (ki6 h)) := by
  unfold ki6
  by_cases h0 : 0 ≤ h
  · have d0 : decide (0 ≤ h) = true := decide_eq_true h0
    rw [d0, Bool.true_and]
    have hX := and_true; refine jb6 Tryd.func124 rfl Tryd.ntmps124 Tryd.results124 rfl (by simp only [jb5, Nat.reduceAdd, u32D, u8D, iD, bD, strD, ja6, jb1, ja5, ja3, ja4, ja2, ja1, jb2, jb0]; exact rfl) ?_; intro w0 A
    have hX := And.intro d0 (and_true)
    (repeat refine ja0 ?_); refine rgx [0] ?_
    (repeat refine ja0 ?_); refine rggx [2] ?_
    (repeat refine ja0 ?_); refine ja9 ?_; refine retx ?_; (try dsimp only [outV, ja8])
    exact ja7 rfl
  · have d0 : decide (0 ≤ h) = false := decide_eq_false h0
    rw [d0, Bool.false_and]
    have hX := and_true; refine jb6 Tryd.func124 rfl Tryd.ntmps124 Tryd.results124 rfl (by simp only [jb5, Nat.reduceAdd, u32D, u8D, iD, bD, strD, ja6, jb1, ja5, ja3, ja4, ja2, ja1, jb2, jb0]; exact rfl) ?_; intro w0 A
    have hX := And.intro d0 (and_true)
    (repeat refine ja0 ?_); refine rgx [0] ?_
    (repeat refine ja0 ?_); refine rggx [2] ?_
    (repeat refine ja0 ?_); refine ja9 ?_; refine retx ?_; (try dsimp only [outV, ja8])
    exact ja7 rfl

def jk1 (s : List UInt8) (i : Nat) : List UInt8 := midS (5 :: UInt8.ofNat i :: s)
theorem jt6 (s : List UInt8) (i : Nat) : (jk1 s i).length = 16 := jx8 _
set_option maxHeartbeats 2000000 in
theorem jw6 (s : List UInt8) (h n : Int) (i : Nat) (hs : s.length ≤ 1000000) (hi : i < 256) : PC (jb8 Tryd.prog) 110 [keyD s h n, iD (i : Int)] (strD (jk1 s i)) := by
  have e1 : (i : Int) % 256 = (i : Int) := by omega
  have e2 : ([ji4 (D.v (Value.int IntKind.u8 (i : Int)))] : List UInt8) = [UInt8.ofNat i] := by simp [ji4]
  have hX := and_true; refine jb6 Tryd.func110 rfl Tryd.ntmps110 Tryd.results110 rfl (by simp only [jb5, Nat.reduceAdd, u32D, u8D, iD, bD, strD, ja6, jb1, ja5, ja3, ja4, ja2, ja1, jb2, jb0]; exact rfl) ?_; intro w0 A
  have hX := And.intro jl5 (And.intro e1 (e2))
  have hK := And.intro (jw8 (5 :: UInt8.ofNat i :: s) (by simp only [List.length_cons]; omega)) trivial; (repeat refine ja0 ?_); refine rgx [1, 2] ?_
  (repeat refine ja0 ?_); refine rgx [4] ?_
  (repeat refine ja0 ?_); refine ja9 ?_; refine retx ?_; (try dsimp only [outV, ja8])
  exact ja7 rfl


def jh0 (s : List UInt8) (m : Nat) : List (List UInt8) := (List.range m).map fun i => jv8 (jk1 s i)
theorem jl4 (s : List UInt8) (m : Nat) : (jh0 s m).length = m := by simp [jh0]
theorem qb0 (s : List UInt8) (m : Nat) : jh0 s (m + 1) = jh0 s m ++ [jv8 (jk1 s m)] := by simp [jh0, List.range_succ]
theorem jo7 (s : List UInt8) (m : Nat) : ∀ x ∈ jh0 s m, x.length = 32 := by
  intro x hx
  simp only [jh0, List.mem_map] at hx
  obtain ⟨i, _, rfl⟩ := hx
  exact jx0 _
theorem qr8 (s : List UInt8) (m i : Nat) (hi : i < m) : (jh0 s m).getD i [] = jv8 (jk1 s i) := by
  simp [jh0, List.getD_eq_getElem?_getD, hi]

theorem kk8 {h : Nat} (hh : h ≤ 7) : ki6 (h : Int) = true := by simp [ki6]; omega
theorem vk3 {h : Int} (hh : h < 0 ∨ 7 < h) : ki6 h = false := by
  unfold ki6
  rcases hh with h1 | h1
  · rw [decide_eq_false (show ¬ 0 ≤ h by omega), Bool.false_and]
  · rw [decide_eq_false (show ¬ h ≤ 7 by omega), Bool.and_false]
theorem kx8 (h : Nat) : (1 : Int) * 2 ^ h = ((2 ^ h : Nat) : Int) := by simp
theorem jp9 (h : Nat) : 1 ≤ 2 ^ h := Nat.one_le_two_pow
set_option maxHeartbeats 4000000 in
theorem qv8 (s : List UInt8) (m n : Nat) (h1 : s.length ≠ 0) (h2 : s.length ≤ 64) (hm : m ≤ 7) (hn : n ≤ 2 ^ m) : PC (jb8 Tryd.prog) 108 [keyD s (m : Int) (n : Int)] (iD 0) := by
  have d1 : decide ((s.length : Int) = 0) = false := decide_eq_false (by omega)
  have d2 : decide ((64 : Int) < (s.length : Int)) = false := decide_eq_false (by omega)
  have d3 := kk8 hm
  have d4 := qn2 n
  have hp := ji1 hm
  have hq := jp9 m
  have e1 := kx8 m
  have d5 : decide (((2 ^ m : Nat) : Int) < (n : Int)) = false := decide_eq_false (by omega)
  have hX := and_true; refine jb6 Tryd.func108 rfl Tryd.ntmps108 Tryd.results108 rfl (by simp only [jb5, Nat.reduceAdd, u32D, u8D, iD, bD, strD, ja6, jb1, ja5, ja3, ja4, ja2, ja1, jb2, jb0]; exact rfl) ?_; intro w0 A
  have hX := And.intro jl5 (And.intro d1 (And.intro d2 (And.intro d3 (And.intro d4 (And.intro e1 (d5))))))
  (repeat refine ja0 ?_); refine jc4 [1] ?_; intro w0 A S0 f0; (repeat ((with_reducible show DR _ _ _ (_ :: _) _); first | (refine cx _ (envG _ _ _ _ _ _) rfl rfl rfl rfl rfl ?_ (hc := by first | exact jk6 _))  | (refine sx ?_))); refine jb4 ?_; refine kl1 ?_
  (repeat refine ja0 ?_); refine jn1 [31] (by kernel_rfl) ?_; intro w0 A S0 f0; (repeat (first | (refine gtxq rfl rfl ?_) | (refine gxq ?_) | ((with_reducible show DRq _ _ _ (_ :: _) _); first | (refine cxq _ (envG _ _ _ _ _ _) rfl rfl rfl rfl rfl ?_ (hc := by first | exact jk6 _)) | (refine sxq ?_)))); refine jh2 ?_; refine kl1 ?_
  (repeat refine ja0 ?_); refine iffx ?_
  (repeat refine ja0 ?_); refine jb3 ?_
  (repeat refine ja0 ?_); refine jc4 [2] ?_; intro w0 A S0 f0; (repeat ((with_reducible show DR _ _ _ (_ :: _) _); first | (refine cx _ (envG _ _ _ _ _ _) rfl rfl rfl rfl rfl ?_ (hc := by first | exact jk6 _))  | (refine sx ?_))); refine jb4 ?_; refine kl1 ?_
  (repeat refine ja0 ?_); refine ja9 ?_; refine retx ?_; (try dsimp only [outV, ja8])
  exact ja7 rfl


def badP (n : Int) (sig : List UInt8) : Prop := n < 0 ∨ 7 < n ∨ (sig.length : Int) ≠ 1089 + 32 * n ∨ 2 ^ n.toNat ≤ (sig.getD 0 0).toNat
def plD (i : Nat) : D := .tup (.cons (iD (i : Int)) (.cons (iD 0) .nil))
def plN : D := .tup (.cons (iD 0) (.cons (iD 2) .nil))
set_option maxHeartbeats 4000000 in
theorem qt6 (n : Int) (sig : List UInt8) (hbad : badP n sig) : PC (jb8 Tryd.prog) 76 [iD n, strD sig] plN := by
  unfold plN
  by_cases c1 : n < 0 ∨ 7 < n
  · have d1 := vk3 c1
    have hX := and_true; refine jb6 Tryd.func76 rfl Tryd.ntmps76 Tryd.results76 rfl (by simp only [jb5, Nat.reduceAdd, u32D, u8D, iD, bD, strD, ja6, jb1, ja5, ja3, ja4, ja2, ja1, jb2, jb0]; exact rfl) ?_; intro w0 A
    have hX := And.intro d1 (and_true)
    (repeat refine ja0 ?_); refine jc4 [0, 1] ?_; intro w0 A S0 f0; (repeat ((with_reducible show DR _ _ _ (_ :: _) _); first | (refine cx _ (envG _ _ _ _ _ _) rfl rfl rfl rfl rfl ?_ (hc := by first | exact jk6 _))  | (refine sx ?_))); refine jb4 ?_; refine kl1 ?_
    (repeat refine ja0 ?_); refine jn1 [1, 24] (by kernel_rfl) ?_; intro w0 A S0 f0; (repeat (first | (refine gtxq rfl rfl ?_) | (refine gxq ?_) | ((with_reducible show DRq _ _ _ (_ :: _) _); first | (refine cxq _ (envG _ _ _ _ _ _) rfl rfl rfl rfl rfl ?_ (hc := by first | exact jk6 _)) | (refine sxq ?_)))); refine jh2 ?_; refine kl1 ?_
    (repeat refine ja0 ?_); refine iftx ?_
    (repeat refine ja0 ?_); refine jc4 [4, 5] ?_; intro w0 A S0 f0; (repeat ((with_reducible show DR _ _ _ (_ :: _) _); first | (refine cx _ (envG _ _ _ _ _ _) rfl rfl rfl rfl rfl ?_ (hc := by first | exact jk6 _))  | (refine sx ?_))); refine jb4 ?_; refine kl1 ?_
    (repeat refine ja0 ?_); refine ja9 ?_; refine retx ?_; (try dsimp only [outV, ja8])
    exact ja7 rfl
  obtain ⟨m, rfl⟩ : ∃ m : Nat, n = (m : Int) := ⟨n.toNat, by omega⟩
  have hm : m ≤ 7 := by omega
  have d1 := kk8 hm
  by_cases c2 : (sig.length : Int) = 1089 + (m : Int) * 32
  case neg =>
    have d2 : decide ((sig.length : Int) = 1089 + (m : Int) * 32) = false := decide_eq_false c2
    have hX := and_true; refine jb6 Tryd.func76 rfl Tryd.ntmps76 Tryd.results76 rfl (by simp only [jb5, Nat.reduceAdd, u32D, u8D, iD, bD, strD, ja6, jb1, ja5, ja3, ja4, ja2, ja1, jb2, jb0]; exact rfl) ?_; intro w0 A
    have hX := And.intro d1 (d2)
    (repeat refine ja0 ?_); refine jc4 [0, 1] ?_; intro w0 A S0 f0; (repeat ((with_reducible show DR _ _ _ (_ :: _) _); first | (refine cx _ (envG _ _ _ _ _ _) rfl rfl rfl rfl rfl ?_ (hc := by first | exact jk6 _))  | (refine sx ?_))); refine jb4 ?_; refine kl1 ?_
    (repeat refine ja0 ?_); refine jn1 [1, 24] (by kernel_rfl) ?_; intro w0 A S0 f0; (repeat (first | (refine gtxq rfl rfl ?_) | (refine gxq ?_) | ((with_reducible show DRq _ _ _ (_ :: _) _); first | (refine cxq _ (envG _ _ _ _ _ _) rfl rfl rfl rfl rfl ?_ (hc := by first | exact jk6 _)) | (refine sxq ?_)))); refine jh2 ?_; refine kl1 ?_
    (repeat refine ja0 ?_); refine iftx ?_
    (repeat refine ja0 ?_); refine jc4 [4, 5] ?_; intro w0 A S0 f0; (repeat ((with_reducible show DR _ _ _ (_ :: _) _); first | (refine cx _ (envG _ _ _ _ _ _) rfl rfl rfl rfl rfl ?_ (hc := by first | exact jk6 _))  | (refine sx ?_))); refine jb4 ?_; refine kl1 ?_
    (repeat refine ja0 ?_); refine ja9 ?_; refine retx ?_; (try dsimp only [outV, ja8])
    exact ja7 rfl
  have d2 : decide ((sig.length : Int) = 1089 + (m : Int) * 32) = true := decide_eq_true c2
  have hp := ji1 hm
  have hq := jp9 m
  have e1 := kx8 m
  have hx := UInt8.toNat_lt (sig.getD 0 0)
  have d3 : decide (((2 ^ m : Nat) : Int) ≤ ((sig.getD 0 0).toNat : Int)) = true := by
    rcases hbad with h | h | h | h
    · omega
    · omega
    · omega
    · rw [Int.toNat_natCast] at h; exact decide_eq_true (by omega)
  have hX := and_true; refine jb6 Tryd.func76 rfl Tryd.ntmps76 Tryd.results76 rfl (by simp only [jb5, Nat.reduceAdd, u32D, u8D, iD, bD, strD, ja6, jb1, ja5, ja3, ja4, ja2, ja1, jb2, jb0]; exact rfl) ?_; intro w0 A
  have hX := And.intro d1 (And.intro d2 (And.intro e1 (d3)))
  (repeat refine ja0 ?_); refine jc4 [0, 1] ?_; intro w0 A S0 f0; (repeat ((with_reducible show DR _ _ _ (_ :: _) _); first | (refine cx _ (envG _ _ _ _ _ _) rfl rfl rfl rfl rfl ?_ (hc := by first | exact jk6 _))  | (refine sx ?_))); refine jb4 ?_; refine kl1 ?_
  (repeat refine ja0 ?_); refine jn1 [1, 24] (by kernel_rfl) ?_; intro w0 A S0 f0; (repeat (first | (refine gtxq rfl rfl ?_) | (refine gxq ?_) | ((with_reducible show DRq _ _ _ (_ :: _) _); first | (refine cxq _ (envG _ _ _ _ _ _) rfl rfl rfl rfl rfl ?_ (hc := by first | exact jk6 _)) | (refine sxq ?_)))); refine jh2 ?_; refine kl1 ?_
  (repeat refine ja0 ?_); refine iftx ?_
  (repeat refine ja0 ?_); refine jc4 [4, 5] ?_; intro w0 A S0 f0; (repeat ((with_reducible show DR _ _ _ (_ :: _) _); first | (refine cx _ (envG _ _ _ _ _ _) rfl rfl rfl rfl rfl ?_ (hc := by first | exact jk6 _))  | (refine sx ?_))); refine jb4 ?_; refine kl1 ?_
  (repeat refine ja0 ?_); refine ja9 ?_; refine retx ?_; (try dsimp only [outV, ja8])
  exact ja7 rfl
set_option maxHeartbeats 4000000 in
theorem qy4 (m : Nat) (sig : List UInt8) (hm : m ≤ 7) (hl : sig.length = 1089 + 32 * m) (hi : (sig.getD 0 0).toNat < 2 ^ m) : PC (jb8 Tryd.prog) 76 [iD (m : Int), strD sig] (plD (sig.getD 0 0).toNat) := by
  unfold plD
  have d1 := kk8 hm
  have d2 : decide ((sig.length : Int) = 1089 + (m : Int) * 32) = true := decide_eq_true (by omega)
  have hp := ji1 hm
  have hq := jp9 m
  have e1 := kx8 m
  have d3 : decide (((2 ^ m : Nat) : Int) ≤ ((sig.getD 0 0).toNat : Int)) = false := decide_eq_false (by omega)
  have hX := and_true; refine jb6 Tryd.func76 rfl Tryd.ntmps76 Tryd.results76 rfl (by simp only [jb5, Nat.reduceAdd, u32D, u8D, iD, bD, strD, ja6, jb1, ja5, ja3, ja4, ja2, ja1, jb2, jb0]; exact rfl) ?_; intro w0 A
  have hX := And.intro d1 (And.intro d2 (And.intro e1 (d3)))
  (repeat refine ja0 ?_); refine jc4 [0, 1] ?_; intro w0 A S0 f0; (repeat ((with_reducible show DR _ _ _ (_ :: _) _); first | (refine cx _ (envG _ _ _ _ _ _) rfl rfl rfl rfl rfl ?_ (hc := by first | exact jk6 _))  | (refine sx ?_))); refine jb4 ?_; refine kl1 ?_
  (repeat refine ja0 ?_); refine jn1 [1, 24] (by kernel_rfl) ?_; intro w0 A S0 f0; (repeat (first | (refine gtxq rfl rfl ?_) | (refine gxq ?_) | ((with_reducible show DRq _ _ _ (_ :: _) _); first | (refine cxq _ (envG _ _ _ _ _ _) rfl rfl rfl rfl rfl ?_ (hc := by first | exact jk6 _)) | (refine sxq ?_)))); refine jh2 ?_; refine kl1 ?_
  (repeat refine ja0 ?_); refine iffx ?_
  (repeat refine ja0 ?_); refine jb3 ?_
  (repeat refine ja0 ?_); refine jc4 [4, 5] ?_; intro w0 A S0 f0; (repeat ((with_reducible show DR _ _ _ (_ :: _) _); first | (refine cx _ (envG _ _ _ _ _ _) rfl rfl rfl rfl rfl ?_ (hc := by first | exact jk6 _))  | (refine sx ?_))); refine jb4 ?_; refine kl1 ?_
  (repeat refine ja0 ?_); refine ja9 ?_; refine retx ?_; (try dsimp only [outV, ja8])
  exact ja7 rfl


end Go.Proofs.YtcdnpmpjeeiapaaDoor
