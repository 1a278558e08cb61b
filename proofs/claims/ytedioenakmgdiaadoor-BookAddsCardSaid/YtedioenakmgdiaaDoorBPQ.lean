/- Keys: what is right, seeds, leaves. Which keys are right; places. -/
import Derived.Test.YtedioenakmgdiaaDoorBPD
import Derived.Test.YtedioenakmgdiaaDoorBPU
import Derived.Test.YtedioenakmgdiaaDoorBPO
namespace Go.Proofs.YtedioenakmgdiaaDoor
set_option linter.unusedSimpArgs false
set_option linter.unusedVariables false
set_option maxRecDepth 10000
open Go.RowKit
def highB (h : Int) : Bool := decide (0 ≤ h) && decide (h ≤ 7)
theorem high_c (h : Int) : PC (envOf Tryd.prog) 71 [iD h] (bD (highB h)) := by
  unfold highB
  by_cases h0 : 0 ≤ h
  · have d0 : decide (0 ≤ h) = true := decide_eq_true h0
    rw [d0, Bool.true_and]
    have hX := and_true; refine PC_atX Tryd.func71 rfl Tryd.ntmps71 Tryd.results71 rfl (by simp only [argsL, Nat.reduceAdd, u32D, u8D, iD, bD, strD, u32_xor, u32_or, u32_and, u32_add, u32_not, u32_shr, u32_shl, u8_u32, u32_u8]; exact rfl) ?_; intro w0 A
    have hX := And.intro d0 (and_true)
    (repeat refine DX_seq ?_); refine rgx [0] ?_
    (repeat refine DX_seq ?_); refine rggx [2] ?_
    (repeat refine DX_seq ?_); refine DX_ret ?_; refine retx ?_; (try dsimp only [outV, unlist])
    exact Fin_pure rfl
  · have d0 : decide (0 ≤ h) = false := decide_eq_false h0
    rw [d0, Bool.false_and]
    have hX := and_true; refine PC_atX Tryd.func71 rfl Tryd.ntmps71 Tryd.results71 rfl (by simp only [argsL, Nat.reduceAdd, u32D, u8D, iD, bD, strD, u32_xor, u32_or, u32_and, u32_add, u32_not, u32_shr, u32_shl, u8_u32, u32_u8]; exact rfl) ?_; intro w0 A
    have hX := And.intro d0 (and_true)
    (repeat refine DX_seq ?_); refine rgx [0] ?_
    (repeat refine DX_seq ?_); refine rggx [2] ?_
    (repeat refine DX_seq ?_); refine DX_ret ?_; refine retx ?_; (try dsimp only [outV, unlist])
    exact Fin_pure rfl
theorem refhigh_c (h : Int) : PC (envOf Tryd.prog) 72 [iD h] (bD (highB h)) := by
  unfold highB
  by_cases h0 : 0 ≤ h
  · have d0 : decide (0 ≤ h) = true := decide_eq_true h0
    rw [d0, Bool.true_and]
    have hX := and_true; refine PC_atX Tryd.func72 rfl Tryd.ntmps72 Tryd.results72 rfl (by simp only [argsL, Nat.reduceAdd, u32D, u8D, iD, bD, strD, u32_xor, u32_or, u32_and, u32_add, u32_not, u32_shr, u32_shl, u8_u32, u32_u8]; exact rfl) ?_; intro w0 A
    have hX := And.intro d0 (and_true)
    (repeat refine DX_seq ?_); refine rgx [0] ?_
    (repeat refine DX_seq ?_); refine rggx [2] ?_
    (repeat refine DX_seq ?_); refine DX_ret ?_; refine retx ?_; (try dsimp only [outV, unlist])
    exact Fin_pure rfl
  · have d0 : decide (0 ≤ h) = false := decide_eq_false h0
    rw [d0, Bool.false_and]
    have hX := and_true; refine PC_atX Tryd.func72 rfl Tryd.ntmps72 Tryd.results72 rfl (by simp only [argsL, Nat.reduceAdd, u32D, u8D, iD, bD, strD, u32_xor, u32_or, u32_and, u32_add, u32_not, u32_shr, u32_shl, u8_u32, u32_u8]; exact rfl) ?_; intro w0 A
    have hX := And.intro d0 (and_true)
    (repeat refine DX_seq ?_); refine rgx [0] ?_
    (repeat refine DX_seq ?_); refine rggx [2] ?_
    (repeat refine DX_seq ?_); refine DX_ret ?_; refine retx ?_; (try dsimp only [outV, unlist])
    exact Fin_pure rfl
set_option maxHeartbeats 2000000 in
theorem places_c (h : Nat) (hh : h ≤ 7) : PC (envOf Tryd.prog) 68 [iD (h : Int)] (iD ((2 ^ h : Nat) : Int)) := by
  have hX := and_true; refine PC_atX Tryd.func68 rfl Tryd.ntmps68 Tryd.results68 rfl (by simp only [argsL, Nat.reduceAdd, u32D, u8D, iD, bD, strD, u32_xor, u32_or, u32_and, u32_add, u32_not, u32_shr, u32_shl, u8_u32, u32_u8]; exact rfl) ?_; intro w0 A
  (repeat refine DX_seq ?_); refine rgx [0] ?_
  (repeat refine DX_seq ?_); refine rgx [0, 3] ?_
  (repeat refine DX_seq ?_); refine rgx [0, 3, 4] ?_
  (repeat refine DX_seq ?_); refine DX_block ?_
  (repeat refine DX_seq ?_); refine DX_loop (fun m _ st => ∃ k, k + m = h ∧ st = mk [(0, iD (h : Int)), (3, iD ((2 ^ k : Nat) : Int)), (4, iD (k : Int))] []) h ⟨_, WeakX.refl _, 0, by omega, rfl⟩ ?_
  rintro m _ _ ⟨k, hk, rfl⟩
  (repeat refine DX_seq ?_); refine rgx [0, 3, 4, 7] ?_
  (repeat refine DX_seq ?_); refine ifx ?_ ?_
  · intro hc; (try simp only [hcs, ne_eq] at hc)
    have hpb := two_pow_big (show k ≤ 7 by omega)
    have hsu : 2 ^ (k + 1) = 2 ^ k * 2 := Nat.pow_succ 2 k
    generalize 2 ^ k = x at *
    (repeat refine DX_seq ?_); refine DX_skip ?_
    (repeat refine DX_seq ?_); refine DX_block ?_
    (repeat refine DX_seq ?_); refine rgx [0, 3, 4] ?_
    (repeat refine DX_seq ?_); refine rgx [0, 3, 4] ?_
    exact ⟨_, m - 1, WeakX.refl _, by omega, k + 1, by omega, by rw [hsu]; simp [iD]⟩
  · intro hc; (try simp only [hcs, ne_eq] at hc)
    obtain rfl : k = h := by omega
    (repeat refine DX_seq ?_); refine DX_exit ?_
    (repeat refine DX_seq ?_); refine rgx [2] ?_
    (repeat refine DX_seq ?_); refine DX_ret ?_; refine retx ?_; (try dsimp only [outV, unlist])
    exact Fin_pure rfl
end Go.Proofs.YtedioenakmgdiaaDoor

namespace Go.Proofs.YtedioenakmgdiaaDoor
set_option linter.unusedSimpArgs false
set_option linter.unusedVariables false
set_option maxRecDepth 10000
open Go.RowKit
theorem high_yes {h : Nat} (hh : h ≤ 7) : highB (h : Int) = true := by simp [highB]; omega
theorem high_no {h : Int} (hh : h < 0 ∨ 7 < h) : highB h = false := by
  unfold highB
  rcases hh with h1 | h1
  · rw [decide_eq_false (show ¬ 0 ≤ h by omega), Bool.false_and]
  · rw [decide_eq_false (show ¬ h ≤ 7 by omega), Bool.and_false]
theorem shl_h (h : Nat) : (1 : Int) * 2 ^ h = ((2 ^ h : Nat) : Int) := by simp
theorem two_pow_pos' (h : Nat) : 1 ≤ 2 ^ h := Nat.one_le_two_pow
/-- a signature's place: it is right if it has the length, and the place is there -/
def badP (n : Int) (sig : List UInt8) : Prop := n < 0 ∨ 7 < n ∨ (sig.length : Int) ≠ 1089 + 32 * n ∨ 2 ^ n.toNat ≤ (sig.getD 0 0).toNat
def plD (i : Nat) : D := .tup (.cons (iD (i : Int)) (.cons (iD 0) .nil))
def plN : D := .tup (.cons (iD 0) (.cons (iD 2) .nil))
set_option maxHeartbeats 4000000 in
theorem placeNo_c (n : Int) (sig : List UInt8) (hbad : badP n sig) : PC (envOf Tryd.prog) 33 [iD n, strD sig] plN := by
  unfold plN
  by_cases c1 : n < 0 ∨ 7 < n
  · have d1 := high_no c1
    have hX := and_true; refine PC_atX Tryd.func33 rfl Tryd.ntmps33 Tryd.results33 rfl (by simp only [argsL, Nat.reduceAdd, u32D, u8D, iD, bD, strD, u32_xor, u32_or, u32_and, u32_add, u32_not, u32_shr, u32_shl, u8_u32, u32_u8]; exact rfl) ?_; intro w0 A
    have hX := And.intro d1 (and_true)
    (repeat refine DX_seq ?_); refine DX_reg [0, 1] ?_; intro w0 A S0 f0; (repeat ((with_reducible show DR _ _ _ (_ :: _) _); first | (refine cx _ (envG _ _ _ _ _ _) rfl rfl rfl rfl rfl ?_ (hc := by first | exact high_c _))  | (refine sx ?_))); refine DR_nil ?_; refine kl1 ?_
    (repeat refine DX_seq ?_); refine DX_drwq [1, 24] (by kernel_rfl) ?_; intro w0 A S0 f0; (repeat (first | (refine gtxq rfl rfl ?_) | (refine gxq ?_) | ((with_reducible show DRq _ _ _ (_ :: _) _); first | (refine cxq _ (envG _ _ _ _ _ _) rfl rfl rfl rfl rfl ?_ (hc := by first | exact high_c _)) | (refine sxq ?_)))); refine DRq_nil ?_; refine kl1 ?_
    (repeat refine DX_seq ?_); refine iftx ?_
    (repeat refine DX_seq ?_); refine DX_reg [4, 5] ?_; intro w0 A S0 f0; (repeat ((with_reducible show DR _ _ _ (_ :: _) _); first | (refine cx _ (envG _ _ _ _ _ _) rfl rfl rfl rfl rfl ?_ (hc := by first | exact high_c _))  | (refine sx ?_))); refine DR_nil ?_; refine kl1 ?_
    (repeat refine DX_seq ?_); refine DX_ret ?_; refine retx ?_; (try dsimp only [outV, unlist])
    exact Fin_pure rfl
  obtain ⟨m, rfl⟩ : ∃ m : Nat, n = (m : Int) := ⟨n.toNat, by omega⟩
  have hm : m ≤ 7 := by omega
  have d1 := high_yes hm
  by_cases c2 : (sig.length : Int) = 1089 + (m : Int) * 32
  case neg =>
    have d2 : decide ((sig.length : Int) = 1089 + (m : Int) * 32) = false := decide_eq_false c2
    have hX := and_true; refine PC_atX Tryd.func33 rfl Tryd.ntmps33 Tryd.results33 rfl (by simp only [argsL, Nat.reduceAdd, u32D, u8D, iD, bD, strD, u32_xor, u32_or, u32_and, u32_add, u32_not, u32_shr, u32_shl, u8_u32, u32_u8]; exact rfl) ?_; intro w0 A
    have hX := And.intro d1 (d2)
    (repeat refine DX_seq ?_); refine DX_reg [0, 1] ?_; intro w0 A S0 f0; (repeat ((with_reducible show DR _ _ _ (_ :: _) _); first | (refine cx _ (envG _ _ _ _ _ _) rfl rfl rfl rfl rfl ?_ (hc := by first | exact high_c _))  | (refine sx ?_))); refine DR_nil ?_; refine kl1 ?_
    (repeat refine DX_seq ?_); refine DX_drwq [1, 24] (by kernel_rfl) ?_; intro w0 A S0 f0; (repeat (first | (refine gtxq rfl rfl ?_) | (refine gxq ?_) | ((with_reducible show DRq _ _ _ (_ :: _) _); first | (refine cxq _ (envG _ _ _ _ _ _) rfl rfl rfl rfl rfl ?_ (hc := by first | exact high_c _)) | (refine sxq ?_)))); refine DRq_nil ?_; refine kl1 ?_
    (repeat refine DX_seq ?_); refine iftx ?_
    (repeat refine DX_seq ?_); refine DX_reg [4, 5] ?_; intro w0 A S0 f0; (repeat ((with_reducible show DR _ _ _ (_ :: _) _); first | (refine cx _ (envG _ _ _ _ _ _) rfl rfl rfl rfl rfl ?_ (hc := by first | exact high_c _))  | (refine sx ?_))); refine DR_nil ?_; refine kl1 ?_
    (repeat refine DX_seq ?_); refine DX_ret ?_; refine retx ?_; (try dsimp only [outV, unlist])
    exact Fin_pure rfl
  have d2 : decide ((sig.length : Int) = 1089 + (m : Int) * 32) = true := decide_eq_true c2
  have hp := two_pow_big hm
  have hq := two_pow_pos' m
  have e1 := shl_h m
  have hx := UInt8.toNat_lt (sig.getD 0 0)
  have d3 : decide (((2 ^ m : Nat) : Int) ≤ ((sig.getD 0 0).toNat : Int)) = true := by
    rcases hbad with h | h | h | h
    · omega
    · omega
    · omega
    · rw [Int.toNat_natCast] at h; exact decide_eq_true (by omega)
  have hX := and_true; refine PC_atX Tryd.func33 rfl Tryd.ntmps33 Tryd.results33 rfl (by simp only [argsL, Nat.reduceAdd, u32D, u8D, iD, bD, strD, u32_xor, u32_or, u32_and, u32_add, u32_not, u32_shr, u32_shl, u8_u32, u32_u8]; exact rfl) ?_; intro w0 A
  have hX := And.intro d1 (And.intro d2 (And.intro e1 (d3)))
  (repeat refine DX_seq ?_); refine DX_reg [0, 1] ?_; intro w0 A S0 f0; (repeat ((with_reducible show DR _ _ _ (_ :: _) _); first | (refine cx _ (envG _ _ _ _ _ _) rfl rfl rfl rfl rfl ?_ (hc := by first | exact high_c _))  | (refine sx ?_))); refine DR_nil ?_; refine kl1 ?_
  (repeat refine DX_seq ?_); refine DX_drwq [1, 24] (by kernel_rfl) ?_; intro w0 A S0 f0; (repeat (first | (refine gtxq rfl rfl ?_) | (refine gxq ?_) | ((with_reducible show DRq _ _ _ (_ :: _) _); first | (refine cxq _ (envG _ _ _ _ _ _) rfl rfl rfl rfl rfl ?_ (hc := by first | exact high_c _)) | (refine sxq ?_)))); refine DRq_nil ?_; refine kl1 ?_
  (repeat refine DX_seq ?_); refine iftx ?_
  (repeat refine DX_seq ?_); refine DX_reg [4, 5] ?_; intro w0 A S0 f0; (repeat ((with_reducible show DR _ _ _ (_ :: _) _); first | (refine cx _ (envG _ _ _ _ _ _) rfl rfl rfl rfl rfl ?_ (hc := by first | exact high_c _))  | (refine sx ?_))); refine DR_nil ?_; refine kl1 ?_
  (repeat refine DX_seq ?_); refine DX_ret ?_; refine retx ?_; (try dsimp only [outV, unlist])
  exact Fin_pure rfl
set_option maxHeartbeats 4000000 in
theorem placeOk_c (m : Nat) (sig : List UInt8) (hm : m ≤ 7) (hl : sig.length = 1089 + 32 * m) (hi : (sig.getD 0 0).toNat < 2 ^ m) : PC (envOf Tryd.prog) 33 [iD (m : Int), strD sig] (plD (sig.getD 0 0).toNat) := by
  unfold plD
  have d1 := high_yes hm
  have d2 : decide ((sig.length : Int) = 1089 + (m : Int) * 32) = true := decide_eq_true (by omega)
  have hp := two_pow_big hm
  have hq := two_pow_pos' m
  have e1 := shl_h m
  have d3 : decide (((2 ^ m : Nat) : Int) ≤ ((sig.getD 0 0).toNat : Int)) = false := decide_eq_false (by omega)
  have hX := and_true; refine PC_atX Tryd.func33 rfl Tryd.ntmps33 Tryd.results33 rfl (by simp only [argsL, Nat.reduceAdd, u32D, u8D, iD, bD, strD, u32_xor, u32_or, u32_and, u32_add, u32_not, u32_shr, u32_shl, u8_u32, u32_u8]; exact rfl) ?_; intro w0 A
  have hX := And.intro d1 (And.intro d2 (And.intro e1 (d3)))
  (repeat refine DX_seq ?_); refine DX_reg [0, 1] ?_; intro w0 A S0 f0; (repeat ((with_reducible show DR _ _ _ (_ :: _) _); first | (refine cx _ (envG _ _ _ _ _ _) rfl rfl rfl rfl rfl ?_ (hc := by first | exact high_c _))  | (refine sx ?_))); refine DR_nil ?_; refine kl1 ?_
  (repeat refine DX_seq ?_); refine DX_drwq [1, 24] (by kernel_rfl) ?_; intro w0 A S0 f0; (repeat (first | (refine gtxq rfl rfl ?_) | (refine gxq ?_) | ((with_reducible show DRq _ _ _ (_ :: _) _); first | (refine cxq _ (envG _ _ _ _ _ _) rfl rfl rfl rfl rfl ?_ (hc := by first | exact high_c _)) | (refine sxq ?_)))); refine DRq_nil ?_; refine kl1 ?_
  (repeat refine DX_seq ?_); refine iffx ?_
  (repeat refine DX_seq ?_); refine DX_skip ?_
  (repeat refine DX_seq ?_); refine DX_reg [4, 5] ?_; intro w0 A S0 f0; (repeat ((with_reducible show DR _ _ _ (_ :: _) _); first | (refine cx _ (envG _ _ _ _ _ _) rfl rfl rfl rfl rfl ?_ (hc := by first | exact high_c _))  | (refine sx ?_))); refine DR_nil ?_; refine kl1 ?_
  (repeat refine DX_seq ?_); refine DX_ret ?_; refine retx ?_; (try dsimp only [outV, unlist])
  exact Fin_pure rfl
set_option maxHeartbeats 4000000 in
theorem refplaceNo_c (n : Int) (sig : List UInt8) (hbad : badP n sig) : PC (envOf Tryd.prog) 34 [iD n, strD sig] plN := by
  unfold plN
  by_cases c1 : n < 0 ∨ 7 < n
  · have d1 := high_no c1
    have hX := and_true; refine PC_atX Tryd.func34 rfl Tryd.ntmps34 Tryd.results34 rfl (by simp only [argsL, Nat.reduceAdd, u32D, u8D, iD, bD, strD, u32_xor, u32_or, u32_and, u32_add, u32_not, u32_shr, u32_shl, u8_u32, u32_u8]; exact rfl) ?_; intro w0 A
    have hX := And.intro d1 (and_true)
    (repeat refine DX_seq ?_); refine DX_reg [0, 1] ?_; intro w0 A S0 f0; (repeat ((with_reducible show DR _ _ _ (_ :: _) _); first | (refine cx _ (envG _ _ _ _ _ _) rfl rfl rfl rfl rfl ?_ (hc := by first | exact refhigh_c _))  | (refine sx ?_))); refine DR_nil ?_; refine kl1 ?_
    (repeat refine DX_seq ?_); refine DX_drwq [1, 24] (by kernel_rfl) ?_; intro w0 A S0 f0; (repeat (first | (refine gtxq rfl rfl ?_) | (refine gxq ?_) | ((with_reducible show DRq _ _ _ (_ :: _) _); first | (refine cxq _ (envG _ _ _ _ _ _) rfl rfl rfl rfl rfl ?_ (hc := by first | exact refhigh_c _)) | (refine sxq ?_)))); refine DRq_nil ?_; refine kl1 ?_
    (repeat refine DX_seq ?_); refine iftx ?_
    (repeat refine DX_seq ?_); refine DX_reg [4, 5] ?_; intro w0 A S0 f0; (repeat ((with_reducible show DR _ _ _ (_ :: _) _); first | (refine cx _ (envG _ _ _ _ _ _) rfl rfl rfl rfl rfl ?_ (hc := by first | exact refhigh_c _))  | (refine sx ?_))); refine DR_nil ?_; refine kl1 ?_
    (repeat refine DX_seq ?_); refine DX_ret ?_; refine retx ?_; (try dsimp only [outV, unlist])
    exact Fin_pure rfl
  obtain ⟨m, rfl⟩ : ∃ m : Nat, n = (m : Int) := ⟨n.toNat, by omega⟩
  have hm : m ≤ 7 := by omega
  have d1 := high_yes hm
  by_cases c2 : (sig.length : Int) = 1089 + 32 * (m : Int)
  case neg =>
    have d2 : decide ((sig.length : Int) = 1089 + 32 * (m : Int)) = false := decide_eq_false c2
    have hX := and_true; refine PC_atX Tryd.func34 rfl Tryd.ntmps34 Tryd.results34 rfl (by simp only [argsL, Nat.reduceAdd, u32D, u8D, iD, bD, strD, u32_xor, u32_or, u32_and, u32_add, u32_not, u32_shr, u32_shl, u8_u32, u32_u8]; exact rfl) ?_; intro w0 A
    have hX := And.intro d1 (d2)
    (repeat refine DX_seq ?_); refine DX_reg [0, 1] ?_; intro w0 A S0 f0; (repeat ((with_reducible show DR _ _ _ (_ :: _) _); first | (refine cx _ (envG _ _ _ _ _ _) rfl rfl rfl rfl rfl ?_ (hc := by first | exact refhigh_c _))  | (refine sx ?_))); refine DR_nil ?_; refine kl1 ?_
    (repeat refine DX_seq ?_); refine DX_drwq [1, 24] (by kernel_rfl) ?_; intro w0 A S0 f0; (repeat (first | (refine gtxq rfl rfl ?_) | (refine gxq ?_) | ((with_reducible show DRq _ _ _ (_ :: _) _); first | (refine cxq _ (envG _ _ _ _ _ _) rfl rfl rfl rfl rfl ?_ (hc := by first | exact refhigh_c _)) | (refine sxq ?_)))); refine DRq_nil ?_; refine kl1 ?_
    (repeat refine DX_seq ?_); refine iftx ?_
    (repeat refine DX_seq ?_); refine DX_reg [4, 5] ?_; intro w0 A S0 f0; (repeat ((with_reducible show DR _ _ _ (_ :: _) _); first | (refine cx _ (envG _ _ _ _ _ _) rfl rfl rfl rfl rfl ?_ (hc := by first | exact refhigh_c _))  | (refine sx ?_))); refine DR_nil ?_; refine kl1 ?_
    (repeat refine DX_seq ?_); refine DX_ret ?_; refine retx ?_; (try dsimp only [outV, unlist])
    exact Fin_pure rfl
  have d2 : decide ((sig.length : Int) = 1089 + 32 * (m : Int)) = true := decide_eq_true c2
  have hp := two_pow_big hm
  have hq := two_pow_pos' m
  have e1 := shl_h m
  have hx := UInt8.toNat_lt (sig.getD 0 0)
  have d3 : decide (((2 ^ m : Nat) : Int) ≤ ((sig.getD 0 0).toNat : Int)) = true := by
    rcases hbad with h | h | h | h
    · omega
    · omega
    · omega
    · rw [Int.toNat_natCast] at h; exact decide_eq_true (by omega)
  have hX := and_true; refine PC_atX Tryd.func34 rfl Tryd.ntmps34 Tryd.results34 rfl (by simp only [argsL, Nat.reduceAdd, u32D, u8D, iD, bD, strD, u32_xor, u32_or, u32_and, u32_add, u32_not, u32_shr, u32_shl, u8_u32, u32_u8]; exact rfl) ?_; intro w0 A
  have hX := And.intro d1 (And.intro d2 (And.intro e1 (d3)))
  (repeat refine DX_seq ?_); refine DX_reg [0, 1] ?_; intro w0 A S0 f0; (repeat ((with_reducible show DR _ _ _ (_ :: _) _); first | (refine cx _ (envG _ _ _ _ _ _) rfl rfl rfl rfl rfl ?_ (hc := by first | exact refhigh_c _ | exact places_c m hm))  | (refine sx ?_))); refine DR_nil ?_; refine kl1 ?_
  (repeat refine DX_seq ?_); refine DX_drwq [1, 24] (by kernel_rfl) ?_; intro w0 A S0 f0; (repeat (first | (refine gtxq rfl rfl ?_) | (refine gxq ?_) | ((with_reducible show DRq _ _ _ (_ :: _) _); first | (refine cxq _ (envG _ _ _ _ _ _) rfl rfl rfl rfl rfl ?_ (hc := by first | exact refhigh_c _ | exact places_c m hm)) | (refine sxq ?_)))); refine DRq_nil ?_; refine kl1 ?_
  (repeat refine DX_seq ?_); refine iftx ?_
  (repeat refine DX_seq ?_); refine DX_reg [4, 5] ?_; intro w0 A S0 f0; (repeat ((with_reducible show DR _ _ _ (_ :: _) _); first | (refine cx _ (envG _ _ _ _ _ _) rfl rfl rfl rfl rfl ?_ (hc := by first | exact refhigh_c _ | exact places_c m hm))  | (refine sx ?_))); refine DR_nil ?_; refine kl1 ?_
  (repeat refine DX_seq ?_); refine DX_ret ?_; refine retx ?_; (try dsimp only [outV, unlist])
  exact Fin_pure rfl
set_option maxHeartbeats 4000000 in
theorem refplaceOk_c (m : Nat) (sig : List UInt8) (hm : m ≤ 7) (hl : sig.length = 1089 + 32 * m) (hi : (sig.getD 0 0).toNat < 2 ^ m) : PC (envOf Tryd.prog) 34 [iD (m : Int), strD sig] (plD (sig.getD 0 0).toNat) := by
  unfold plD
  have d1 := high_yes hm
  have d2 : decide ((sig.length : Int) = 1089 + 32 * (m : Int)) = true := decide_eq_true (by omega)
  have hp := two_pow_big hm
  have hq := two_pow_pos' m
  have e1 := shl_h m
  have d3 : decide (((2 ^ m : Nat) : Int) ≤ ((sig.getD 0 0).toNat : Int)) = false := decide_eq_false (by omega)
  have hX := and_true; refine PC_atX Tryd.func34 rfl Tryd.ntmps34 Tryd.results34 rfl (by simp only [argsL, Nat.reduceAdd, u32D, u8D, iD, bD, strD, u32_xor, u32_or, u32_and, u32_add, u32_not, u32_shr, u32_shl, u8_u32, u32_u8]; exact rfl) ?_; intro w0 A
  have hX := And.intro d1 (And.intro d2 (And.intro e1 (d3)))
  (repeat refine DX_seq ?_); refine DX_reg [0, 1] ?_; intro w0 A S0 f0; (repeat ((with_reducible show DR _ _ _ (_ :: _) _); first | (refine cx _ (envG _ _ _ _ _ _) rfl rfl rfl rfl rfl ?_ (hc := by first | exact refhigh_c _ | exact places_c m hm))  | (refine sx ?_))); refine DR_nil ?_; refine kl1 ?_
  (repeat refine DX_seq ?_); refine DX_drwq [1, 24] (by kernel_rfl) ?_; intro w0 A S0 f0; (repeat (first | (refine gtxq rfl rfl ?_) | (refine gxq ?_) | ((with_reducible show DRq _ _ _ (_ :: _) _); first | (refine cxq _ (envG _ _ _ _ _ _) rfl rfl rfl rfl rfl ?_ (hc := by first | exact refhigh_c _ | exact places_c m hm)) | (refine sxq ?_)))); refine DRq_nil ?_; refine kl1 ?_
  (repeat refine DX_seq ?_); refine iffx ?_
  (repeat refine DX_seq ?_); refine DX_skip ?_
  (repeat refine DX_seq ?_); refine DX_reg [4, 5] ?_; intro w0 A S0 f0; (repeat ((with_reducible show DR _ _ _ (_ :: _) _); first | (refine cx _ (envG _ _ _ _ _ _) rfl rfl rfl rfl rfl ?_ (hc := by first | exact refhigh_c _ | exact places_c m hm))  | (refine sx ?_))); refine DR_nil ?_; refine kl1 ?_
  (repeat refine DX_seq ?_); refine DX_ret ?_; refine retx ?_; (try dsimp only [outV, unlist])
  exact Fin_pure rfl
end Go.Proofs.YtedioenakmgdiaaDoor
