/- Chains, and their starts. -/
import Derived.Test.YtedioenakmgdiaaDoorBPD
import Derived.Test.YtedioenakmgdiaaDoorBPF
namespace Go.Proofs.YtedioenakmgdiaaDoor
set_option linter.unusedSimpArgs false
set_option linter.unusedVariables false
set_option maxRecDepth 10000
open Go.RowKit
def midS (l : List UInt8) : List UInt8 := (sumP l).take 16
theorem midS_len (l : List UInt8) : (midS l).length = 16 := by simp [midS, sumP_len]
theorem midS_c (l : List UInt8) (hl : l.length ≤ 1048576) : PC (envOf Tryd.prog) 103 [strD l] (strD (midS l)) := mid_c l hl
theorem refmidS_c (l : List UInt8) (hl : l.length ≤ 1048576) : PC (envOf Tryd.prog) 99 [strD l] (strD (midS l)) := by
  have := refmid_c l hl
  rw [← sum_eq] at this
  exact this
def onS (x : List UInt8) : Nat → List UInt8
  | 0 => x
  | k + 1 => midS (2 :: onS x k)
theorem onS_le (x : List UInt8) (k : Nat) (hx : x.length ≤ 1000000) : (onS x k).length ≤ 1000000 := by
  cases k with
  | zero => exact hx
  | succ k => unfold onS; rw [midS_len]; omega
theorem onS_len (x : List UInt8) (k : Nat) (hx : x.length = 16) : (onS x k).length = 16 := by
  cases k with
  | zero => exact hx
  | succ k => unfold onS; rw [midS_len]
theorem cons2 (l : List UInt8) : ([2] : List UInt8) ++ l = 2 :: l := rfl
set_option maxHeartbeats 2000000 in
theorem on_c (x : List UInt8) (n : Nat) (hx : x.length ≤ 1000000) (hn : n ≤ 1000000) : PC (envOf Tryd.prog) 101 [strD x, iD (n : Int)] (strD (onS x n)) := by
  have hX := and_true; refine PC_atX Tryd.func101 rfl Tryd.ntmps101 Tryd.results101 rfl (by simp only [argsL, Nat.reduceAdd, u32D, u8D, iD, bD, strD, u32_xor, u32_or, u32_and, u32_add, u32_not, u32_shr, u32_shl, u8_u32, u32_u8]; exact rfl) ?_; intro w0 A
  (repeat refine DX_seq ?_); refine rgx [0, 1] ?_
  (repeat refine DX_seq ?_); refine rgx [0, 5, 6] ?_
  (repeat refine DX_seq ?_); refine DX_block ?_
  (repeat refine DX_seq ?_); refine DX_loop (fun m _ st => ∃ k, k + m = n ∧ st = mk [(0, strD (onS x k)), (5, iD (n : Int)), (6, iD (k : Int))] []) n ⟨_, WeakX.refl _, 0, by omega, rfl⟩ ?_
  rintro m _ _ ⟨k, hk, rfl⟩
  (repeat refine DX_seq ?_); refine rgx [0, 5, 6, 7] ?_
  (repeat refine DX_seq ?_); refine ifx ?_ ?_
  · intro hc; (try simp only [hcs, ne_eq] at hc)
    have hl := onS_le x k hx
    (repeat refine DX_seq ?_); refine DX_skip ?_
    (repeat refine DX_seq ?_); refine DX_block ?_
    have hX := And.intro cons2 (and_true)
    have hK := And.intro (midS_c (2 :: onS x k) (by rw [List.length_cons]; omega)) trivial; (repeat refine DX_seq ?_); refine rgx [0, 5, 6] ?_
    (repeat refine DX_seq ?_); refine rgx [0, 5, 6] ?_
    exact ⟨_, m - 1, WeakX.refl _, by omega, k + 1, by omega, by simp [iD, strD, onS]⟩
  · intro hc; (try simp only [hcs, ne_eq] at hc)
    obtain rfl : k = n := by omega
    (repeat refine DX_seq ?_); refine DX_exit ?_
    (repeat refine DX_seq ?_); refine rgx [4] ?_
    (repeat refine DX_seq ?_); refine DX_ret ?_; refine retx ?_; (try dsimp only [outV, unlist])
    exact Fin_pure rfl
set_option maxHeartbeats 2000000 in
theorem refon_c (x : List UInt8) (n : Nat) (hx : x.length ≤ 1000000) (hn : n ≤ 1000000) : PC (envOf Tryd.prog) 97 [strD x, iD (n : Int)] (strD (onS x n)) := by
  have hX := and_true; refine PC_atX Tryd.func97 rfl Tryd.ntmps97 Tryd.results97 rfl (by simp only [argsL, Nat.reduceAdd, u32D, u8D, iD, bD, strD, u32_xor, u32_or, u32_and, u32_add, u32_not, u32_shr, u32_shl, u8_u32, u32_u8]; exact rfl) ?_; intro w0 A
  (repeat refine DX_seq ?_); refine rgx [0, 1] ?_
  (repeat refine DX_seq ?_); refine rgx [0, 1, 5] ?_
  (repeat refine DX_seq ?_); refine DX_block ?_
  (repeat refine DX_seq ?_); refine DX_loop (fun m _ st => ∃ k, k + m = n ∧ st = mk [(0, strD (onS x k)), (1, iD (n : Int)), (5, iD (k : Int))] []) n ⟨_, WeakX.refl _, 0, by omega, rfl⟩ ?_
  rintro m _ _ ⟨k, hk, rfl⟩
  (repeat refine DX_seq ?_); refine rgx [0, 1, 5, 8] ?_
  (repeat refine DX_seq ?_); refine ifx ?_ ?_
  · intro hc; (try simp only [hcs, ne_eq] at hc)
    have hl := onS_le x k hx
    (repeat refine DX_seq ?_); refine DX_skip ?_
    (repeat refine DX_seq ?_); refine DX_block ?_
    have hX := And.intro cons2 (and_true)
    have hK := And.intro (refmidS_c (2 :: onS x k) (by rw [List.length_cons]; omega)) trivial; (repeat refine DX_seq ?_); refine rgx [0, 1, 5] ?_
    (repeat refine DX_seq ?_); refine rgx [0, 1, 5] ?_
    exact ⟨_, m - 1, WeakX.refl _, by omega, k + 1, by omega, by simp [iD, strD, onS]⟩
  · intro hc; (try simp only [hcs, ne_eq] at hc)
    obtain rfl : k = n := by omega
    (repeat refine DX_seq ?_); refine DX_exit ?_
    (repeat refine DX_seq ?_); refine rgx [4] ?_
    (repeat refine DX_seq ?_); refine DX_ret ?_; refine retx ?_; (try dsimp only [outV, unlist])
    exact Fin_pure rfl
end Go.Proofs.YtedioenakmgdiaaDoor
