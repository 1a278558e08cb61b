/- Chains, and their starts. -/
import Derived.Test.YtcdnpmpjeeiapaaDoorQPD
import Derived.Test.YtcdnpmpjeeiapaaDoorQPF
set_option linter.unusedSimpArgs false
set_option linter.unusedVariables false
set_option maxRecDepth 10000
namespace Go.Proofs.YtcdnpmpjeeiapaaDoor
open Go.RowKit
def midS (l : List UInt8) : List UInt8 := (sumP l).take 16
theorem jx8 (l : List UInt8) : (midS l).length = 16 := by simp [midS, jx0]
theorem jw8 (l : List UInt8) (hl : l.length ≤ 1048576) : PC (jb8 Tryd.prog) 146 [strD l] (strD (midS l)) := vu2 l hl

def onS (x : List UInt8) : Nat → List UInt8
  | 0 => x
  | k + 1 => midS (2 :: onS x k)
theorem vq5 (x : List UInt8) (k : Nat) (hx : x.length ≤ 1000000) : (onS x k).length ≤ 1000000 := by
  cases k with
  | zero => exact hx
  | succ k => unfold onS; rw [jx8]; omega
theorem ka4 (x : List UInt8) (k : Nat) (hx : x.length = 16) : (onS x k).length = 16 := by
  cases k with
  | zero => exact hx
  | succ k => unfold onS; rw [jx8]
theorem vw0 (l : List UInt8) : ([2] : List UInt8) ++ l = 2 :: l := rfl
set_option maxHeartbeats 2000000 in
theorem on_c (x : List UInt8) (n : Nat) (hx : x.length ≤ 1000000) (hn : n ≤ 1000000) : PC (jb8 Tryd.prog) 126 [strD x, iD (n : Int)] (strD (onS x n)) := by
  have hX := and_true; refine jb6 Tryd.func126 rfl Tryd.ntmps126 Tryd.results126 rfl (by simp only [jb5, Nat.reduceAdd, u32D, u8D, iD, bD, strD, ja6, jb1, ja5, ja3, ja4, ja2, ja1, jb2, jb0]; exact rfl) ?_; intro w0 A
  (repeat refine ja0 ?_); refine rgx [0, 1] ?_
  (repeat refine ja0 ?_); refine rgx [0, 5, 6] ?_
  (repeat refine ja0 ?_); refine jb9 ?_
  (repeat refine ja0 ?_); refine jf4 (fun m _ st => ∃ k, k + m = n ∧ st = mk [(0, strD (onS x k)), (5, iD (n : Int)), (6, iD (k : Int))] []) n ⟨_, WeakX.refl _, 0, by omega, rfl⟩ ?_
  rintro m _ _ ⟨k, hk, rfl⟩
  (repeat refine ja0 ?_); refine rgx [0, 5, 6, 7] ?_
  (repeat refine ja0 ?_); refine ifx ?_ ?_
  · intro hc; (try simp only [hcs, ne_eq] at hc)
    have hl := vq5 x k hx
    (repeat refine ja0 ?_); refine jb3 ?_
    (repeat refine ja0 ?_); refine jb9 ?_
    have hX := And.intro vw0 (and_true)
    have hK := And.intro (jw8 (2 :: onS x k) (by rw [List.length_cons]; omega)) trivial; (repeat refine ja0 ?_); refine rgx [0, 5, 6] ?_
    (repeat refine ja0 ?_); refine rgx [0, 5, 6] ?_
    exact ⟨_, m - 1, WeakX.refl _, by omega, k + 1, by omega, by simp [iD, strD, onS]⟩
  · intro hc; (try simp only [hcs, ne_eq] at hc)
    obtain rfl : k = n := by omega
    (repeat refine ja0 ?_); refine je4 ?_
    (repeat refine ja0 ?_); refine rgx [4] ?_
    (repeat refine ja0 ?_); refine ja9 ?_; refine retx ?_; (try dsimp only [outV, ja8])
    exact ja7 rfl

end Go.Proofs.YtcdnpmpjeeiapaaDoor
