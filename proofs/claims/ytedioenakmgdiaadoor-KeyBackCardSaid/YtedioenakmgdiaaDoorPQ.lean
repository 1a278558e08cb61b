/- Keys: what is right, seeds, leaves. Which keys are right; places. -/
import Derived.Test.YtedioenakmgdiaaDoorPD
import Derived.Test.YtedioenakmgdiaaDoorPU
import Derived.Test.YtedioenakmgdiaaDoorPO
namespace Go.Proofs.YtedioenakmgdiaaDoor
set_option linter.unusedSimpArgs false
set_option linter.unusedVariables false
set_option maxRecDepth 10000
open Go.RowKit
def keyD (s : List UInt8) (h n : Int) : D := .cons (strD s) (.cons (iD h) (.cons (iD n) .nil))
theorem keyD_eq (s : List UInt8) (h n : Int) : keyD s h n = .cons (.v (.string (B s))) (.cons (.v (.int .i64 h)) (.cons (.v (.int .i64 n)) .nil)) := rfl
def highB (h : Int) : Bool := decide (0 ≤ h) && decide (h ≤ 7)
theorem high_c (h : Int) : PC (envOf Tryd.prog) 71 [iD h] (bD (highB h)) := by
  unfold highB
  by_cases h0 : 0 ≤ h
  · have d0 : decide (0 ≤ h) = true := decide_eq_true h0
    rw [d0, Bool.true_and]
    have hX := and_true; refine PC_atX Tryd.func71 rfl Tryd.ntmps71 Tryd.results71 rfl (by simp only [argsL, Nat.reduceAdd, u32D, u8D, iD, bD, strD, u32_xor, u32_or, u32_and, u32_add, u32_not, u32_shr, u32_shl, u8_u32, u32_u8]; exact rfl) ?_; intro w0 A
    have hX := And.intro d0 (and_true)
    (repeat refine DX_seq ?_); refine rgx [0] ?_
    (repeat refine DX_seq ?_); refine rggx [2] ?_
    (repeat refine DX_seq ?_); refine DX_ret ?_; refine retx ?_; (try dsimp only [outV, unlist])
    exact Fin_pure rfl
  · have d0 : decide (0 ≤ h) = false := decide_eq_false h0
    rw [d0, Bool.false_and]
    have hX := and_true; refine PC_atX Tryd.func71 rfl Tryd.ntmps71 Tryd.results71 rfl (by simp only [argsL, Nat.reduceAdd, u32D, u8D, iD, bD, strD, u32_xor, u32_or, u32_and, u32_add, u32_not, u32_shr, u32_shl, u8_u32, u32_u8]; exact rfl) ?_; intro w0 A
    have hX := And.intro d0 (and_true)
    (repeat refine DX_seq ?_); refine rgx [0] ?_
    (repeat refine DX_seq ?_); refine rggx [2] ?_
    (repeat refine DX_seq ?_); refine DX_ret ?_; refine retx ?_; (try dsimp only [outV, unlist])
    exact Fin_pure rfl
theorem refhigh_c (h : Int) : PC (envOf Tryd.prog) 72 [iD h] (bD (highB h)) := by
  unfold highB
  by_cases h0 : 0 ≤ h
  · have d0 : decide (0 ≤ h) = true := decide_eq_true h0
    rw [d0, Bool.true_and]
    have hX := and_true; refine PC_atX Tryd.func72 rfl Tryd.ntmps72 Tryd.results72 rfl (by simp only [argsL, Nat.reduceAdd, u32D, u8D, iD, bD, strD, u32_xor, u32_or, u32_and, u32_add, u32_not, u32_shr, u32_shl, u8_u32, u32_u8]; exact rfl) ?_; intro w0 A
    have hX := And.intro d0 (and_true)
    (repeat refine DX_seq ?_); refine rgx [0] ?_
    (repeat refine DX_seq ?_); refine rggx [2] ?_
    (repeat refine DX_seq ?_); refine DX_ret ?_; refine retx ?_; (try dsimp only [outV, unlist])
    exact Fin_pure rfl
  · have d0 : decide (0 ≤ h) = false := decide_eq_false h0
    rw [d0, Bool.false_and]
    have hX := and_true; refine PC_atX Tryd.func72 rfl Tryd.ntmps72 Tryd.results72 rfl (by simp only [argsL, Nat.reduceAdd, u32D, u8D, iD, bD, strD, u32_xor, u32_or, u32_and, u32_add, u32_not, u32_shr, u32_shl, u8_u32, u32_u8]; exact rfl) ?_; intro w0 A
    have hX := And.intro d0 (and_true)
    (repeat refine DX_seq ?_); refine rgx [0] ?_
    (repeat refine DX_seq ?_); refine rggx [2] ?_
    (repeat refine DX_seq ?_); refine DX_ret ?_; refine retx ?_; (try dsimp only [outV, unlist])
    exact Fin_pure rfl
def seedS (s : List UInt8) (i : Nat) : List UInt8 := midS (5 :: UInt8.ofNat i :: s)
theorem seedS_len (s : List UInt8) (i : Nat) : (seedS s i).length = 16 := midS_len _
set_option maxHeartbeats 2000000 in
theorem seed_c (s : List UInt8) (h n : Int) (i : Nat) (hs : s.length ≤ 1000000) (hi : i < 256) : PC (envOf Tryd.prog) 77 [keyD s h n, iD (i : Int)] (strD (seedS s i)) := by
  have e1 : (i : Int) % 256 = (i : Int) := by omega
  have e2 : ([byteOf (D.v (Value.int IntKind.u8 (i : Int)))] : List UInt8) = [UInt8.ofNat i] := by simp [byteOf]
  have hX := and_true; refine PC_atX Tryd.func77 rfl Tryd.ntmps77 Tryd.results77 rfl (by simp only [argsL, Nat.reduceAdd, u32D, u8D, iD, bD, strD, u32_xor, u32_or, u32_and, u32_add, u32_not, u32_shr, u32_shl, u8_u32, u32_u8]; exact rfl) ?_; intro w0 A
  have hX := And.intro keyD_eq (And.intro e1 (e2))
  have hK := And.intro (midS_c (5 :: UInt8.ofNat i :: s) (by simp only [List.length_cons]; omega)) trivial; (repeat refine DX_seq ?_); refine rgx [1, 2] ?_
  (repeat refine DX_seq ?_); refine rgx [4] ?_
  (repeat refine DX_seq ?_); refine DX_ret ?_; refine retx ?_; (try dsimp only [outV, unlist])
  exact Fin_pure rfl
set_option maxHeartbeats 2000000 in
theorem refseed_c (s : List UInt8) (h n : Int) (i : Nat) (hs : s.length ≤ 1000000) (hi : i < 256) : PC (envOf Tryd.prog) 70 [keyD s h n, iD (i : Int)] (strD (seedS s i)) := by
  have e1 : (i : Int) % 256 = (i : Int) := by omega
  have e2 : ([byteOf (D.v (Value.int IntKind.u8 (i : Int)))] : List UInt8) = [UInt8.ofNat i] := by simp [byteOf]
  have hX := and_true; refine PC_atX Tryd.func70 rfl Tryd.ntmps70 Tryd.results70 rfl (by simp only [argsL, Nat.reduceAdd, u32D, u8D, iD, bD, strD, u32_xor, u32_or, u32_and, u32_add, u32_not, u32_shr, u32_shl, u8_u32, u32_u8]; exact rfl) ?_; intro w0 A
  have hX := And.intro keyD_eq (And.intro e1 (e2))
  have hK := And.intro (refmidS_c (5 :: UInt8.ofNat i :: s) (by simp only [List.length_cons]; omega)) trivial; (repeat refine DX_seq ?_); refine rgx [1, 2] ?_
  (repeat refine DX_seq ?_); refine rgx [4] ?_
  (repeat refine DX_seq ?_); refine DX_ret ?_; refine retx ?_; (try dsimp only [outV, unlist])
  exact Fin_pure rfl
set_option maxHeartbeats 2000000 in
theorem places_c (h : Nat) (hh : h ≤ 7) : PC (envOf Tryd.prog) 68 [iD (h : Int)] (iD ((2 ^ h : Nat) : Int)) := by
  have hX := and_true; refine PC_atX Tryd.func68 rfl Tryd.ntmps68 Tryd.results68 rfl (by simp only [argsL, Nat.reduceAdd, u32D, u8D, iD, bD, strD, u32_xor, u32_or, u32_and, u32_add, u32_not, u32_shr, u32_shl, u8_u32, u32_u8]; exact rfl) ?_; intro w0 A
  (repeat refine DX_seq ?_); refine rgx [0] ?_
  (repeat refine DX_seq ?_); refine rgx [0, 3] ?_
  (repeat refine DX_seq ?_); refine rgx [0, 3, 4] ?_
  (repeat refine DX_seq ?_); refine DX_block ?_
  (repeat refine DX_seq ?_); refine DX_loop (fun m _ st => ∃ k, k + m = h ∧ st = mk [(0, iD (h : Int)), (3, iD ((2 ^ k : Nat) : Int)), (4, iD (k : Int))] []) h ⟨_, WeakX.refl _, 0, by omega, rfl⟩ ?_
  rintro m _ _ ⟨k, hk, rfl⟩
  (repeat refine DX_seq ?_); refine rgx [0, 3, 4, 7] ?_
  (repeat refine DX_seq ?_); refine ifx ?_ ?_
  · intro hc; (try simp only [hcs, ne_eq] at hc)
    have hpb := two_pow_big (show k ≤ 7 by omega)
    have hsu : 2 ^ (k + 1) = 2 ^ k * 2 := Nat.pow_succ 2 k
    generalize 2 ^ k = x at *
    (repeat refine DX_seq ?_); refine DX_skip ?_
    (repeat refine DX_seq ?_); refine DX_block ?_
    (repeat refine DX_seq ?_); refine rgx [0, 3, 4] ?_
    (repeat refine DX_seq ?_); refine rgx [0, 3, 4] ?_
    exact ⟨_, m - 1, WeakX.refl _, by omega, k + 1, by omega, by rw [hsu]; simp [iD]⟩
  · intro hc; (try simp only [hcs, ne_eq] at hc)
    obtain rfl : k = h := by omega
    (repeat refine DX_seq ?_); refine DX_exit ?_
    (repeat refine DX_seq ?_); refine rgx [2] ?_
    (repeat refine DX_seq ?_); refine DX_ret ?_; refine retx ?_; (try dsimp only [outV, unlist])
    exact Fin_pure rfl
/-- the public sums of places -/
def leavesS (s : List UInt8) (m : Nat) : List (List UInt8) := (List.range m).map fun i => publicS (seedS s i)
theorem leavesS_len (s : List UInt8) (m : Nat) : (leavesS s m).length = m := by simp [leavesS]
theorem leavesS_succ (s : List UInt8) (m : Nat) : leavesS s (m + 1) = leavesS s m ++ [publicS (seedS s m)] := by simp [leavesS, List.range_succ]
theorem leavesS_all (s : List UInt8) (m : Nat) : ∀ x ∈ leavesS s m, x.length = 32 := by
  intro x hx
  simp only [leavesS, List.mem_map] at hx
  obtain ⟨i, _, rfl⟩ := hx
  exact sumP_len _
theorem leavesS_at (s : List UInt8) (m i : Nat) (hi : i < m) : (leavesS s m).getD i [] = publicS (seedS s i) := by
  simp [leavesS, List.getD_eq_getElem?_getD, hi]
set_option maxHeartbeats 4000000 in
theorem refleaves_c (s : List UInt8) (h : Nat) (n : Int) (hs : s.length ≤ 1000000) (hh : h ≤ 7) : PC (envOf Tryd.prog) 67 [keyD s (h : Int) n] (hsD (leavesS s (2 ^ h))) := by
  have hhD : ∀ h, hashD h = .arr .u8 32 (fun i => ((h.getD i 0).toNat : Int)) := fun _ => rfl
  have hpb := two_pow_big hh
  have cp := places_c h hh
  generalize 2 ^ h = N at *
  have hX := and_true; refine PC_atX Tryd.func67 rfl Tryd.ntmps67 Tryd.results67 rfl (by simp only [argsL, Nat.reduceAdd, u32D, u8D, iD, bD, strD, u32_xor, u32_or, u32_and, u32_add, u32_not, u32_shr, u32_shl, u8_u32, u32_u8]; exact rfl) ?_; intro w0 A
  have hX := And.intro keyD_eq (and_true)
  (repeat refine DX_seq ?_); refine rgx [1] ?_
  (repeat refine DX_seq ?_); refine rgx [1, 3] ?_
  (repeat refine DX_seq ?_); refine rgx [1, 3, 4] ?_
  (repeat refine DX_seq ?_); refine DX_block ?_
  refine DX_weak (fun _ _ _ _ => Weak.nil_own 3 24 32 rfl) ?_
  refine DX_loop (fun m _ st => ∃ k, k + m = N ∧ st = mk [(1, .ptr 0 0), (3, .own 1 k 24 32), (4, iD (k : Int))] [some (.one (keyD s (h : Int) n)), some (.row ((leavesS s k).map hashD) 24 32)]) N ⟨_, WeakX.pick [1, 3, 4], 0, by omega, rfl⟩ ?_
  rintro m _ _ ⟨k, hk, rfl⟩
  have hX := And.intro keyD_eq (and_true)
  have hK := And.intro (cp) trivial; (repeat refine DX_seq ?_); refine rgx [1, 3, 4, 9] ?_
  (repeat refine DX_seq ?_); refine ifx ?_ ?_
  · intro hc; (try simp only [hcs, ne_eq] at hc)
    have hl := leavesS_len s k
    have hsu := leavesS_succ s k
    (repeat refine DX_seq ?_); refine DX_skip ?_
    (repeat refine DX_seq ?_); refine DX_block ?_
    have hX := And.intro keyD_eq (And.intro hl (hhD))
    (repeat refine DX_seq ?_); refine DX_reg [1, 3, 4] ?_; intro w0 A S0 f0; (repeat ((with_reducible show DR _ _ _ (_ :: _) _); first | (refine cx _ (envG _ _ _ _ _ _) rfl rfl rfl rfl rfl ?_ (hc := by first | exact refseed_c s _ n k hs (by omega) | exact refpublic_c (seedS s k) (by rw [seedS_len]; omega)))  | (refine sx ?_))); refine DR_nil ?_; refine kl1 ?_
    (repeat refine DX_seq ?_); refine DX_reg [1, 3, 4] ?_; intro w0 A S0 f0; (repeat ((with_reducible show DR _ _ _ (_ :: _) _); first | (refine cx _ (envG _ _ _ _ _ _) rfl rfl rfl rfl rfl ?_ (hc := by first | exact refseed_c s _ n k hs (by omega) | exact refpublic_c (seedS s k) (by rw [seedS_len]; omega)))  | (refine sx ?_))); refine DR_nil ?_; refine kl1 ?_
    exact ⟨_, m - 1, WeakX.refl _, by omega, k + 1, by omega, by rw [hsu]; simp [iD, keyD_eq, hhD, kil, mk]⟩
  · intro hc; (try simp only [hcs, ne_eq] at hc)
    obtain rfl : k = N := by omega
    have hl := leavesS_len s k
    (repeat refine DX_seq ?_); refine DX_exit ?_
    (repeat refine DX_seq ?_); refine rgx [2] ?_
    (repeat refine DX_seq ?_); refine DX_ret ?_; refine retx ?_; (try dsimp only [outV, unlist])
    refine Fin_elems rfl (by simp only [elems, List.getElem?_cons_zero, List.getElem?_cons_succ]; exact rfl) (by simp [hl]) ?_ (fun _ => rfl)
    rw [List.take_of_length_le (by simp [hl])]
end Go.Proofs.YtedioenakmgdiaaDoor

namespace Go.Proofs.YtedioenakmgdiaaDoor
set_option linter.unusedSimpArgs false
set_option linter.unusedVariables false
set_option maxRecDepth 10000
open Go.RowKit
def badK (s : List UInt8) (h n : Int) : Prop := s.length = 0 ∨ 64 < s.length ∨ h < 0 ∨ 7 < h ∨ n < 0 ∨ ((2 ^ h.toNat : Nat) : Int) < n
theorem high_yes {h : Nat} (hh : h ≤ 7) : highB (h : Int) = true := by simp [highB]; omega
theorem high_no {h : Int} (hh : h < 0 ∨ 7 < h) : highB h = false := by
  unfold highB
  rcases hh with h1 | h1
  · rw [decide_eq_false (show ¬ 0 ≤ h by omega), Bool.false_and]
  · rw [decide_eq_false (show ¬ h ≤ 7 by omega), Bool.and_false]
theorem shl_h (h : Nat) : (1 : Int) * 2 ^ h = ((2 ^ h : Nat) : Int) := by simp
theorem two_pow_pos' (h : Nat) : 1 ≤ 2 ^ h := Nat.one_le_two_pow
set_option maxHeartbeats 4000000 in
theorem checkNo_c (s : List UInt8) (h n : Int) (hbad : badK s h n) : PC (envOf Tryd.prog) 31 [keyD s h n] (iD 2) := by
  by_cases c1 : s.length = 0
  · have d1 : decide ((s.length : Int) = 0) = true := decide_eq_true (by omega)
    have hX := and_true; refine PC_atX Tryd.func31 rfl Tryd.ntmps31 Tryd.results31 rfl (by simp only [argsL, Nat.reduceAdd, u32D, u8D, iD, bD, strD, u32_xor, u32_or, u32_and, u32_add, u32_not, u32_shr, u32_shl, u8_u32, u32_u8]; exact rfl) ?_; intro w0 A
    have hX := And.intro keyD_eq (d1)
    (repeat refine DX_seq ?_); refine DX_reg [1] ?_; intro w0 A S0 f0; (repeat ((with_reducible show DR _ _ _ (_ :: _) _); first | (refine cx _ (envG _ _ _ _ _ _) rfl rfl rfl rfl rfl ?_ (hc := by first | exact high_c _))  | (refine sx ?_))); refine DR_nil ?_; refine kl1 ?_
    (repeat refine DX_seq ?_); refine DX_drwq [31] (by kernel_rfl) ?_; intro w0 A S0 f0; (repeat (first | (refine gtxq rfl rfl ?_) | (refine gxq ?_) | ((with_reducible show DRq _ _ _ (_ :: _) _); first | (refine cxq _ (envG _ _ _ _ _ _) rfl rfl rfl rfl rfl ?_ (hc := by first | exact high_c _)) | (refine sxq ?_)))); refine DRq_nil ?_; refine kl1 ?_
    (repeat refine DX_seq ?_); refine iftx ?_
    (repeat refine DX_seq ?_); refine DX_reg [2] ?_; intro w0 A S0 f0; (repeat ((with_reducible show DR _ _ _ (_ :: _) _); first | (refine cx _ (envG _ _ _ _ _ _) rfl rfl rfl rfl rfl ?_ (hc := by first | exact high_c _))  | (refine sx ?_))); refine DR_nil ?_; refine kl1 ?_
    (repeat refine DX_seq ?_); refine DX_ret ?_; refine retx ?_; (try dsimp only [outV, unlist])
    exact Fin_pure rfl
  have d1 : decide ((s.length : Int) = 0) = false := decide_eq_false (by omega)
  by_cases c2 : 64 < s.length
  · have d2 : decide ((64 : Int) < (s.length : Int)) = true := decide_eq_true (by omega)
    have hX := and_true; refine PC_atX Tryd.func31 rfl Tryd.ntmps31 Tryd.results31 rfl (by simp only [argsL, Nat.reduceAdd, u32D, u8D, iD, bD, strD, u32_xor, u32_or, u32_and, u32_add, u32_not, u32_shr, u32_shl, u8_u32, u32_u8]; exact rfl) ?_; intro w0 A
    have hX := And.intro keyD_eq (And.intro d1 (d2))
    (repeat refine DX_seq ?_); refine DX_reg [1] ?_; intro w0 A S0 f0; (repeat ((with_reducible show DR _ _ _ (_ :: _) _); first | (refine cx _ (envG _ _ _ _ _ _) rfl rfl rfl rfl rfl ?_ (hc := by first | exact high_c _))  | (refine sx ?_))); refine DR_nil ?_; refine kl1 ?_
    (repeat refine DX_seq ?_); refine DX_drwq [31] (by kernel_rfl) ?_; intro w0 A S0 f0; (repeat (first | (refine gtxq rfl rfl ?_) | (refine gxq ?_) | ((with_reducible show DRq _ _ _ (_ :: _) _); first | (refine cxq _ (envG _ _ _ _ _ _) rfl rfl rfl rfl rfl ?_ (hc := by first | exact high_c _)) | (refine sxq ?_)))); refine DRq_nil ?_; refine kl1 ?_
    (repeat refine DX_seq ?_); refine iftx ?_
    (repeat refine DX_seq ?_); refine DX_reg [2] ?_; intro w0 A S0 f0; (repeat ((with_reducible show DR _ _ _ (_ :: _) _); first | (refine cx _ (envG _ _ _ _ _ _) rfl rfl rfl rfl rfl ?_ (hc := by first | exact high_c _))  | (refine sx ?_))); refine DR_nil ?_; refine kl1 ?_
    (repeat refine DX_seq ?_); refine DX_ret ?_; refine retx ?_; (try dsimp only [outV, unlist])
    exact Fin_pure rfl
  have d2 : decide ((64 : Int) < (s.length : Int)) = false := decide_eq_false (by omega)
  by_cases c3 : h < 0 ∨ 7 < h
  · have d3 := high_no c3
    have hX := and_true; refine PC_atX Tryd.func31 rfl Tryd.ntmps31 Tryd.results31 rfl (by simp only [argsL, Nat.reduceAdd, u32D, u8D, iD, bD, strD, u32_xor, u32_or, u32_and, u32_add, u32_not, u32_shr, u32_shl, u8_u32, u32_u8]; exact rfl) ?_; intro w0 A
    have hX := And.intro keyD_eq (And.intro d1 (And.intro d2 (d3)))
    (repeat refine DX_seq ?_); refine DX_reg [1] ?_; intro w0 A S0 f0; (repeat ((with_reducible show DR _ _ _ (_ :: _) _); first | (refine cx _ (envG _ _ _ _ _ _) rfl rfl rfl rfl rfl ?_ (hc := by first | exact high_c _))  | (refine sx ?_))); refine DR_nil ?_; refine kl1 ?_
    (repeat refine DX_seq ?_); refine DX_drwq [31] (by kernel_rfl) ?_; intro w0 A S0 f0; (repeat (first | (refine gtxq rfl rfl ?_) | (refine gxq ?_) | ((with_reducible show DRq _ _ _ (_ :: _) _); first | (refine cxq _ (envG _ _ _ _ _ _) rfl rfl rfl rfl rfl ?_ (hc := by first | exact high_c _)) | (refine sxq ?_)))); refine DRq_nil ?_; refine kl1 ?_
    (repeat refine DX_seq ?_); refine iftx ?_
    (repeat refine DX_seq ?_); refine DX_reg [2] ?_; intro w0 A S0 f0; (repeat ((with_reducible show DR _ _ _ (_ :: _) _); first | (refine cx _ (envG _ _ _ _ _ _) rfl rfl rfl rfl rfl ?_ (hc := by first | exact high_c _))  | (refine sx ?_))); refine DR_nil ?_; refine kl1 ?_
    (repeat refine DX_seq ?_); refine DX_ret ?_; refine retx ?_; (try dsimp only [outV, unlist])
    exact Fin_pure rfl
  obtain ⟨m, rfl⟩ : ∃ m : Nat, h = (m : Int) := ⟨h.toNat, by omega⟩
  have hm : m ≤ 7 := by omega
  have d3 := high_yes hm
  by_cases c4 : n < 0
  · have d4 : decide (n < 0) = true := decide_eq_true c4
    have hX := and_true; refine PC_atX Tryd.func31 rfl Tryd.ntmps31 Tryd.results31 rfl (by simp only [argsL, Nat.reduceAdd, u32D, u8D, iD, bD, strD, u32_xor, u32_or, u32_and, u32_add, u32_not, u32_shr, u32_shl, u8_u32, u32_u8]; exact rfl) ?_; intro w0 A
    have hX := And.intro keyD_eq (And.intro d1 (And.intro d2 (And.intro d3 (d4))))
    (repeat refine DX_seq ?_); refine DX_reg [1] ?_; intro w0 A S0 f0; (repeat ((with_reducible show DR _ _ _ (_ :: _) _); first | (refine cx _ (envG _ _ _ _ _ _) rfl rfl rfl rfl rfl ?_ (hc := by first | exact high_c _))  | (refine sx ?_))); refine DR_nil ?_; refine kl1 ?_
    (repeat refine DX_seq ?_); refine DX_drwq [31] (by kernel_rfl) ?_; intro w0 A S0 f0; (repeat (first | (refine gtxq rfl rfl ?_) | (refine gxq ?_) | ((with_reducible show DRq _ _ _ (_ :: _) _); first | (refine cxq _ (envG _ _ _ _ _ _) rfl rfl rfl rfl rfl ?_ (hc := by first | exact high_c _)) | (refine sxq ?_)))); refine DRq_nil ?_; refine kl1 ?_
    (repeat refine DX_seq ?_); refine iftx ?_
    (repeat refine DX_seq ?_); refine DX_reg [2] ?_; intro w0 A S0 f0; (repeat ((with_reducible show DR _ _ _ (_ :: _) _); first | (refine cx _ (envG _ _ _ _ _ _) rfl rfl rfl rfl rfl ?_ (hc := by first | exact high_c _))  | (refine sx ?_))); refine DR_nil ?_; refine kl1 ?_
    (repeat refine DX_seq ?_); refine DX_ret ?_; refine retx ?_; (try dsimp only [outV, unlist])
    exact Fin_pure rfl
  have d4 : decide (n < 0) = false := decide_eq_false c4
  have hp := two_pow_big hm
  have hq := two_pow_pos' m
  have e1 := shl_h m
  have d5 : decide (((2 ^ m : Nat) : Int) < n) = true := by
    rcases hbad with h | h | h | h | h | h
    · omega
    · omega
    · omega
    · omega
    · omega
    · rw [Int.toNat_natCast] at h; exact decide_eq_true h
  have hX := and_true; refine PC_atX Tryd.func31 rfl Tryd.ntmps31 Tryd.results31 rfl (by simp only [argsL, Nat.reduceAdd, u32D, u8D, iD, bD, strD, u32_xor, u32_or, u32_and, u32_add, u32_not, u32_shr, u32_shl, u8_u32, u32_u8]; exact rfl) ?_; intro w0 A
  have hX := And.intro keyD_eq (And.intro d1 (And.intro d2 (And.intro d3 (And.intro d4 (And.intro e1 (d5))))))
  (repeat refine DX_seq ?_); refine DX_reg [1] ?_; intro w0 A S0 f0; (repeat ((with_reducible show DR _ _ _ (_ :: _) _); first | (refine cx _ (envG _ _ _ _ _ _) rfl rfl rfl rfl rfl ?_ (hc := by first | exact high_c _))  | (refine sx ?_))); refine DR_nil ?_; refine kl1 ?_
  (repeat refine DX_seq ?_); refine DX_drwq [31] (by kernel_rfl) ?_; intro w0 A S0 f0; (repeat (first | (refine gtxq rfl rfl ?_) | (refine gxq ?_) | ((with_reducible show DRq _ _ _ (_ :: _) _); first | (refine cxq _ (envG _ _ _ _ _ _) rfl rfl rfl rfl rfl ?_ (hc := by first | exact high_c _)) | (refine sxq ?_)))); refine DRq_nil ?_; refine kl1 ?_
  (repeat refine DX_seq ?_); refine iftx ?_
  (repeat refine DX_seq ?_); refine DX_reg [2] ?_; intro w0 A S0 f0; (repeat ((with_reducible show DR _ _ _ (_ :: _) _); first | (refine cx _ (envG _ _ _ _ _ _) rfl rfl rfl rfl rfl ?_ (hc := by first | exact high_c _))  | (refine sx ?_))); refine DR_nil ?_; refine kl1 ?_
  (repeat refine DX_seq ?_); refine DX_ret ?_; refine retx ?_; (try dsimp only [outV, unlist])
  exact Fin_pure rfl
set_option maxHeartbeats 4000000 in
theorem checkOk_c (s : List UInt8) (m n : Nat) (h1 : s.length ≠ 0) (h2 : s.length ≤ 64) (hm : m ≤ 7) (hn : n ≤ 2 ^ m) : PC (envOf Tryd.prog) 31 [keyD s (m : Int) (n : Int)] (iD 0) := by
  have d1 : decide ((s.length : Int) = 0) = false := decide_eq_false (by omega)
  have d2 : decide ((64 : Int) < (s.length : Int)) = false := decide_eq_false (by omega)
  have d3 := high_yes hm
  have d4 := nat_lt0 n
  have hp := two_pow_big hm
  have hq := two_pow_pos' m
  have e1 := shl_h m
  have d5 : decide (((2 ^ m : Nat) : Int) < (n : Int)) = false := decide_eq_false (by omega)
  have hX := and_true; refine PC_atX Tryd.func31 rfl Tryd.ntmps31 Tryd.results31 rfl (by simp only [argsL, Nat.reduceAdd, u32D, u8D, iD, bD, strD, u32_xor, u32_or, u32_and, u32_add, u32_not, u32_shr, u32_shl, u8_u32, u32_u8]; exact rfl) ?_; intro w0 A
  have hX := And.intro keyD_eq (And.intro d1 (And.intro d2 (And.intro d3 (And.intro d4 (And.intro e1 (d5))))))
  (repeat refine DX_seq ?_); refine DX_reg [1] ?_; intro w0 A S0 f0; (repeat ((with_reducible show DR _ _ _ (_ :: _) _); first | (refine cx _ (envG _ _ _ _ _ _) rfl rfl rfl rfl rfl ?_ (hc := by first | exact high_c _))  | (refine sx ?_))); refine DR_nil ?_; refine kl1 ?_
  (repeat refine DX_seq ?_); refine DX_drwq [31] (by kernel_rfl) ?_; intro w0 A S0 f0; (repeat (first | (refine gtxq rfl rfl ?_) | (refine gxq ?_) | ((with_reducible show DRq _ _ _ (_ :: _) _); first | (refine cxq _ (envG _ _ _ _ _ _) rfl rfl rfl rfl rfl ?_ (hc := by first | exact high_c _)) | (refine sxq ?_)))); refine DRq_nil ?_; refine kl1 ?_
  (repeat refine DX_seq ?_); refine iffx ?_
  (repeat refine DX_seq ?_); refine DX_skip ?_
  (repeat refine DX_seq ?_); refine DX_reg [2] ?_; intro w0 A S0 f0; (repeat ((with_reducible show DR _ _ _ (_ :: _) _); first | (refine cx _ (envG _ _ _ _ _ _) rfl rfl rfl rfl rfl ?_ (hc := by first | exact high_c _))  | (refine sx ?_))); refine DR_nil ?_; refine kl1 ?_
  (repeat refine DX_seq ?_); refine DX_ret ?_; refine retx ?_; (try dsimp only [outV, unlist])
  exact Fin_pure rfl
set_option maxHeartbeats 4000000 in
theorem refcheckNo_c (s : List UInt8) (h n : Int) (hbad : badK s h n) : PC (envOf Tryd.prog) 32 [keyD s h n] (iD 2) := by
  by_cases c1 : s.length = 0
  · have d1 : decide ((s.length : Int) < 1) = true := decide_eq_true (by omega)
    have hX := and_true; refine PC_atX Tryd.func32 rfl Tryd.ntmps32 Tryd.results32 rfl (by simp only [argsL, Nat.reduceAdd, u32D, u8D, iD, bD, strD, u32_xor, u32_or, u32_and, u32_add, u32_not, u32_shr, u32_shl, u8_u32, u32_u8]; exact rfl) ?_; intro w0 A
    have hX := And.intro keyD_eq (d1)
    (repeat refine DX_seq ?_); refine DX_reg [1] ?_; intro w0 A S0 f0; (repeat ((with_reducible show DR _ _ _ (_ :: _) _); first | (refine cx _ (envG _ _ _ _ _ _) rfl rfl rfl rfl rfl ?_ (hc := by first | exact refhigh_c _))  | (refine sx ?_))); refine DR_nil ?_; refine kl1 ?_
    (repeat refine DX_seq ?_); refine DX_drwq [31] (by kernel_rfl) ?_; intro w0 A S0 f0; (repeat (first | (refine gtxq rfl rfl ?_) | (refine gxq ?_) | ((with_reducible show DRq _ _ _ (_ :: _) _); first | (refine cxq _ (envG _ _ _ _ _ _) rfl rfl rfl rfl rfl ?_ (hc := by first | exact refhigh_c _)) | (refine sxq ?_)))); refine DRq_nil ?_; refine kl1 ?_
    (repeat refine DX_seq ?_); refine iftx ?_
    (repeat refine DX_seq ?_); refine DX_reg [2] ?_; intro w0 A S0 f0; (repeat ((with_reducible show DR _ _ _ (_ :: _) _); first | (refine cx _ (envG _ _ _ _ _ _) rfl rfl rfl rfl rfl ?_ (hc := by first | exact refhigh_c _))  | (refine sx ?_))); refine DR_nil ?_; refine kl1 ?_
    (repeat refine DX_seq ?_); refine DX_ret ?_; refine retx ?_; (try dsimp only [outV, unlist])
    exact Fin_pure rfl
  have d1 : decide ((s.length : Int) < 1) = false := decide_eq_false (by omega)
  by_cases c2 : 64 < s.length
  · have d2 : decide ((64 : Int) < (s.length : Int)) = true := decide_eq_true (by omega)
    have hX := and_true; refine PC_atX Tryd.func32 rfl Tryd.ntmps32 Tryd.results32 rfl (by simp only [argsL, Nat.reduceAdd, u32D, u8D, iD, bD, strD, u32_xor, u32_or, u32_and, u32_add, u32_not, u32_shr, u32_shl, u8_u32, u32_u8]; exact rfl) ?_; intro w0 A
    have hX := And.intro keyD_eq (And.intro d1 (d2))
    (repeat refine DX_seq ?_); refine DX_reg [1] ?_; intro w0 A S0 f0; (repeat ((with_reducible show DR _ _ _ (_ :: _) _); first | (refine cx _ (envG _ _ _ _ _ _) rfl rfl rfl rfl rfl ?_ (hc := by first | exact refhigh_c _))  | (refine sx ?_))); refine DR_nil ?_; refine kl1 ?_
    (repeat refine DX_seq ?_); refine DX_drwq [31] (by kernel_rfl) ?_; intro w0 A S0 f0; (repeat (first | (refine gtxq rfl rfl ?_) | (refine gxq ?_) | ((with_reducible show DRq _ _ _ (_ :: _) _); first | (refine cxq _ (envG _ _ _ _ _ _) rfl rfl rfl rfl rfl ?_ (hc := by first | exact refhigh_c _)) | (refine sxq ?_)))); refine DRq_nil ?_; refine kl1 ?_
    (repeat refine DX_seq ?_); refine iftx ?_
    (repeat refine DX_seq ?_); refine DX_reg [2] ?_; intro w0 A S0 f0; (repeat ((with_reducible show DR _ _ _ (_ :: _) _); first | (refine cx _ (envG _ _ _ _ _ _) rfl rfl rfl rfl rfl ?_ (hc := by first | exact refhigh_c _))  | (refine sx ?_))); refine DR_nil ?_; refine kl1 ?_
    (repeat refine DX_seq ?_); refine DX_ret ?_; refine retx ?_; (try dsimp only [outV, unlist])
    exact Fin_pure rfl
  have d2 : decide ((64 : Int) < (s.length : Int)) = false := decide_eq_false (by omega)
  by_cases c3 : h < 0 ∨ 7 < h
  · have d3 := high_no c3
    have hX := and_true; refine PC_atX Tryd.func32 rfl Tryd.ntmps32 Tryd.results32 rfl (by simp only [argsL, Nat.reduceAdd, u32D, u8D, iD, bD, strD, u32_xor, u32_or, u32_and, u32_add, u32_not, u32_shr, u32_shl, u8_u32, u32_u8]; exact rfl) ?_; intro w0 A
    have hX := And.intro keyD_eq (And.intro d1 (And.intro d2 (d3)))
    (repeat refine DX_seq ?_); refine DX_reg [1] ?_; intro w0 A S0 f0; (repeat ((with_reducible show DR _ _ _ (_ :: _) _); first | (refine cx _ (envG _ _ _ _ _ _) rfl rfl rfl rfl rfl ?_ (hc := by first | exact refhigh_c _))  | (refine sx ?_))); refine DR_nil ?_; refine kl1 ?_
    (repeat refine DX_seq ?_); refine DX_drwq [31] (by kernel_rfl) ?_; intro w0 A S0 f0; (repeat (first | (refine gtxq rfl rfl ?_) | (refine gxq ?_) | ((with_reducible show DRq _ _ _ (_ :: _) _); first | (refine cxq _ (envG _ _ _ _ _ _) rfl rfl rfl rfl rfl ?_ (hc := by first | exact refhigh_c _)) | (refine sxq ?_)))); refine DRq_nil ?_; refine kl1 ?_
    (repeat refine DX_seq ?_); refine iftx ?_
    (repeat refine DX_seq ?_); refine DX_reg [2] ?_; intro w0 A S0 f0; (repeat ((with_reducible show DR _ _ _ (_ :: _) _); first | (refine cx _ (envG _ _ _ _ _ _) rfl rfl rfl rfl rfl ?_ (hc := by first | exact refhigh_c _))  | (refine sx ?_))); refine DR_nil ?_; refine kl1 ?_
    (repeat refine DX_seq ?_); refine DX_ret ?_; refine retx ?_; (try dsimp only [outV, unlist])
    exact Fin_pure rfl
  obtain ⟨m, rfl⟩ : ∃ m : Nat, h = (m : Int) := ⟨h.toNat, by omega⟩
  have hm : m ≤ 7 := by omega
  have d3 := high_yes hm
  by_cases c4 : n < 0
  · have d4 : decide (n < 0) = true := decide_eq_true c4
    have hX := and_true; refine PC_atX Tryd.func32 rfl Tryd.ntmps32 Tryd.results32 rfl (by simp only [argsL, Nat.reduceAdd, u32D, u8D, iD, bD, strD, u32_xor, u32_or, u32_and, u32_add, u32_not, u32_shr, u32_shl, u8_u32, u32_u8]; exact rfl) ?_; intro w0 A
    have hX := And.intro keyD_eq (And.intro d1 (And.intro d2 (And.intro d3 (d4))))
    (repeat refine DX_seq ?_); refine DX_reg [1] ?_; intro w0 A S0 f0; (repeat ((with_reducible show DR _ _ _ (_ :: _) _); first | (refine cx _ (envG _ _ _ _ _ _) rfl rfl rfl rfl rfl ?_ (hc := by first | exact refhigh_c _))  | (refine sx ?_))); refine DR_nil ?_; refine kl1 ?_
    (repeat refine DX_seq ?_); refine DX_drwq [31] (by kernel_rfl) ?_; intro w0 A S0 f0; (repeat (first | (refine gtxq rfl rfl ?_) | (refine gxq ?_) | ((with_reducible show DRq _ _ _ (_ :: _) _); first | (refine cxq _ (envG _ _ _ _ _ _) rfl rfl rfl rfl rfl ?_ (hc := by first | exact refhigh_c _)) | (refine sxq ?_)))); refine DRq_nil ?_; refine kl1 ?_
    (repeat refine DX_seq ?_); refine iftx ?_
    (repeat refine DX_seq ?_); refine DX_reg [2] ?_; intro w0 A S0 f0; (repeat ((with_reducible show DR _ _ _ (_ :: _) _); first | (refine cx _ (envG _ _ _ _ _ _) rfl rfl rfl rfl rfl ?_ (hc := by first | exact refhigh_c _))  | (refine sx ?_))); refine DR_nil ?_; refine kl1 ?_
    (repeat refine DX_seq ?_); refine DX_ret ?_; refine retx ?_; (try dsimp only [outV, unlist])
    exact Fin_pure rfl
  have d4 : decide (n < 0) = false := decide_eq_false c4
  have hp := two_pow_big hm
  have hq := two_pow_pos' m
  have e1 := shl_h m
  have d5 : decide (((2 ^ m : Nat) : Int) < n) = true := by
    rcases hbad with h | h | h | h | h | h
    · omega
    · omega
    · omega
    · omega
    · omega
    · rw [Int.toNat_natCast] at h; exact decide_eq_true h
  have hX := and_true; refine PC_atX Tryd.func32 rfl Tryd.ntmps32 Tryd.results32 rfl (by simp only [argsL, Nat.reduceAdd, u32D, u8D, iD, bD, strD, u32_xor, u32_or, u32_and, u32_add, u32_not, u32_shr, u32_shl, u8_u32, u32_u8]; exact rfl) ?_; intro w0 A
  have hX := And.intro keyD_eq (And.intro d1 (And.intro d2 (And.intro d3 (And.intro d4 (And.intro e1 (d5))))))
  (repeat refine DX_seq ?_); refine DX_reg [1] ?_; intro w0 A S0 f0; (repeat ((with_reducible show DR _ _ _ (_ :: _) _); first | (refine cx _ (envG _ _ _ _ _ _) rfl rfl rfl rfl rfl ?_ (hc := by first | exact refhigh_c _ | exact places_c m hm))  | (refine sx ?_))); refine DR_nil ?_; refine kl1 ?_
  (repeat refine DX_seq ?_); refine DX_drwq [31] (by kernel_rfl) ?_; intro w0 A S0 f0; (repeat (first | (refine gtxq rfl rfl ?_) | (refine gxq ?_) | ((with_reducible show DRq _ _ _ (_ :: _) _); first | (refine cxq _ (envG _ _ _ _ _ _) rfl rfl rfl rfl rfl ?_ (hc := by first | exact refhigh_c _ | exact places_c m hm)) | (refine sxq ?_)))); refine DRq_nil ?_; refine kl1 ?_
  (repeat refine DX_seq ?_); refine iftx ?_
  (repeat refine DX_seq ?_); refine DX_reg [2] ?_; intro w0 A S0 f0; (repeat ((with_reducible show DR _ _ _ (_ :: _) _); first | (refine cx _ (envG _ _ _ _ _ _) rfl rfl rfl rfl rfl ?_ (hc := by first | exact refhigh_c _ | exact places_c m hm))  | (refine sx ?_))); refine DR_nil ?_; refine kl1 ?_
  (repeat refine DX_seq ?_); refine DX_ret ?_; refine retx ?_; (try dsimp only [outV, unlist])
  exact Fin_pure rfl
set_option maxHeartbeats 4000000 in
theorem refcheckOk_c (s : List UInt8) (m n : Nat) (h1 : s.length ≠ 0) (h2 : s.length ≤ 64) (hm : m ≤ 7) (hn : n ≤ 2 ^ m) : PC (envOf Tryd.prog) 32 [keyD s (m : Int) (n : Int)] (iD 0) := by
  have d1 : decide ((s.length : Int) < 1) = false := decide_eq_false (by omega)
  have d2 : decide ((64 : Int) < (s.length : Int)) = false := decide_eq_false (by omega)
  have d3 := high_yes hm
  have d4 := nat_lt0 n
  have hp := two_pow_big hm
  have hq := two_pow_pos' m
  have e1 := shl_h m
  have d5 : decide (((2 ^ m : Nat) : Int) < (n : Int)) = false := decide_eq_false (by omega)
  have hX := and_true; refine PC_atX Tryd.func32 rfl Tryd.ntmps32 Tryd.results32 rfl (by simp only [argsL, Nat.reduceAdd, u32D, u8D, iD, bD, strD, u32_xor, u32_or, u32_and, u32_add, u32_not, u32_shr, u32_shl, u8_u32, u32_u8]; exact rfl) ?_; intro w0 A
  have hX := And.intro keyD_eq (And.intro d1 (And.intro d2 (And.intro d3 (And.intro d4 (And.intro e1 (d5))))))
  (repeat refine DX_seq ?_); refine DX_reg [1] ?_; intro w0 A S0 f0; (repeat ((with_reducible show DR _ _ _ (_ :: _) _); first | (refine cx _ (envG _ _ _ _ _ _) rfl rfl rfl rfl rfl ?_ (hc := by first | exact refhigh_c _ | exact places_c m hm))  | (refine sx ?_))); refine DR_nil ?_; refine kl1 ?_
  (repeat refine DX_seq ?_); refine DX_drwq [31] (by kernel_rfl) ?_; intro w0 A S0 f0; (repeat (first | (refine gtxq rfl rfl ?_) | (refine gxq ?_) | ((with_reducible show DRq _ _ _ (_ :: _) _); first | (refine cxq _ (envG _ _ _ _ _ _) rfl rfl rfl rfl rfl ?_ (hc := by first | exact refhigh_c _ | exact places_c m hm)) | (refine sxq ?_)))); refine DRq_nil ?_; refine kl1 ?_
  (repeat refine DX_seq ?_); refine iffx ?_
  (repeat refine DX_seq ?_); refine DX_skip ?_
  (repeat refine DX_seq ?_); refine DX_reg [2] ?_; intro w0 A S0 f0; (repeat ((with_reducible show DR _ _ _ (_ :: _) _); first | (refine cx _ (envG _ _ _ _ _ _) rfl rfl rfl rfl rfl ?_ (hc := by first | exact refhigh_c _ | exact places_c m hm))  | (refine sx ?_))); refine DR_nil ?_; refine kl1 ?_
  (repeat refine DX_seq ?_); refine DX_ret ?_; refine retx ?_; (try dsimp only [outV, unlist])
  exact Fin_pure rfl
/-- a signature's place: it is right if it has the length, and the place is there -/
def badP (n : Int) (sig : List UInt8) : Prop := n < 0 ∨ 7 < n ∨ (sig.length : Int) ≠ 1089 + 32 * n ∨ 2 ^ n.toNat ≤ (sig.getD 0 0).toNat
def plD (i : Nat) : D := .tup (.cons (iD (i : Int)) (.cons (iD 0) .nil))
def plN : D := .tup (.cons (iD 0) (.cons (iD 2) .nil))
set_option maxHeartbeats 4000000 in
theorem placeNo_c (n : Int) (sig : List UInt8) (hbad : badP n sig) : PC (envOf Tryd.prog) 33 [iD n, strD sig] plN := by
  unfold plN
  by_cases c1 : n < 0 ∨ 7 < n
  · have d1 := high_no c1
    have hX := and_true; refine PC_atX Tryd.func33 rfl Tryd.ntmps33 Tryd.results33 rfl (by simp only [argsL, Nat.reduceAdd, u32D, u8D, iD, bD, strD, u32_xor, u32_or, u32_and, u32_add, u32_not, u32_shr, u32_shl, u8_u32, u32_u8]; exact rfl) ?_; intro w0 A
    have hX := And.intro d1 (and_true)
    (repeat refine DX_seq ?_); refine DX_reg [0, 1] ?_; intro w0 A S0 f0; (repeat ((with_reducible show DR _ _ _ (_ :: _) _); first | (refine cx _ (envG _ _ _ _ _ _) rfl rfl rfl rfl rfl ?_ (hc := by first | exact high_c _))  | (refine sx ?_))); refine DR_nil ?_; refine kl1 ?_
    (repeat refine DX_seq ?_); refine DX_drwq [1, 24] (by kernel_rfl) ?_; intro w0 A S0 f0; (repeat (first | (refine gtxq rfl rfl ?_) | (refine gxq ?_) | ((with_reducible show DRq _ _ _ (_ :: _) _); first | (refine cxq _ (envG _ _ _ _ _ _) rfl rfl rfl rfl rfl ?_ (hc := by first | exact high_c _)) | (refine sxq ?_)))); refine DRq_nil ?_; refine kl1 ?_
    (repeat refine DX_seq ?_); refine iftx ?_
    (repeat refine DX_seq ?_); refine DX_reg [4, 5] ?_; intro w0 A S0 f0; (repeat ((with_reducible show DR _ _ _ (_ :: _) _); first | (refine cx _ (envG _ _ _ _ _ _) rfl rfl rfl rfl rfl ?_ (hc := by first | exact high_c _))  | (refine sx ?_))); refine DR_nil ?_; refine kl1 ?_
    (repeat refine DX_seq ?_); refine DX_ret ?_; refine retx ?_; (try dsimp only [outV, unlist])
    exact Fin_pure rfl
  obtain ⟨m, rfl⟩ : ∃ m : Nat, n = (m : Int) := ⟨n.toNat, by omega⟩
  have hm : m ≤ 7 := by omega
  have d1 := high_yes hm
  by_cases c2 : (sig.length : Int) = 1089 + (m : Int) * 32
  case neg =>
    have d2 : decide ((sig.length : Int) = 1089 + (m : Int) * 32) = false := decide_eq_false c2
    have hX := and_true; refine PC_atX Tryd.func33 rfl Tryd.ntmps33 Tryd.results33 rfl (by simp only [argsL, Nat.reduceAdd, u32D, u8D, iD, bD, strD, u32_xor, u32_or, u32_and, u32_add, u32_not, u32_shr, u32_shl, u8_u32, u32_u8]; exact rfl) ?_; intro w0 A
    have hX := And.intro d1 (d2)
    (repeat refine DX_seq ?_); refine DX_reg [0, 1] ?_; intro w0 A S0 f0; (repeat ((with_reducible show DR _ _ _ (_ :: _) _); first | (refine cx _ (envG _ _ _ _ _ _) rfl rfl rfl rfl rfl ?_ (hc := by first | exact high_c _))  | (refine sx ?_))); refine DR_nil ?_; refine kl1 ?_
    (repeat refine DX_seq ?_); refine DX_drwq [1, 24] (by kernel_rfl) ?_; intro w0 A S0 f0; (repeat (first | (refine gtxq rfl rfl ?_) | (refine gxq ?_) | ((with_reducible show DRq _ _ _ (_ :: _) _); first | (refine cxq _ (envG _ _ _ _ _ _) rfl rfl rfl rfl rfl ?_ (hc := by first | exact high_c _)) | (refine sxq ?_)))); refine DRq_nil ?_; refine kl1 ?_
    (repeat refine DX_seq ?_); refine iftx ?_
    (repeat refine DX_seq ?_); refine DX_reg [4, 5] ?_; intro w0 A S0 f0; (repeat ((with_reducible show DR _ _ _ (_ :: _) _); first | (refine cx _ (envG _ _ _ _ _ _) rfl rfl rfl rfl rfl ?_ (hc := by first | exact high_c _))  | (refine sx ?_))); refine DR_nil ?_; refine kl1 ?_
    (repeat refine DX_seq ?_); refine DX_ret ?_; refine retx ?_; (try dsimp only [outV, unlist])
    exact Fin_pure rfl
  have d2 : decide ((sig.length : Int) = 1089 + (m : Int) * 32) = true := decide_eq_true c2
  have hp := two_pow_big hm
  have hq := two_pow_pos' m
  have e1 := shl_h m
  have hx := UInt8.toNat_lt (sig.getD 0 0)
  have d3 : decide (((2 ^ m : Nat) : Int) ≤ ((sig.getD 0 0).toNat : Int)) = true := by
    rcases hbad with h | h | h | h
    · omega
    · omega
    · omega
    · rw [Int.toNat_natCast] at h; exact decide_eq_true (by omega)
  have hX := and_true; refine PC_atX Tryd.func33 rfl Tryd.ntmps33 Tryd.results33 rfl (by simp only [argsL, Nat.reduceAdd, u32D, u8D, iD, bD, strD, u32_xor, u32_or, u32_and, u32_add, u32_not, u32_shr, u32_shl, u8_u32, u32_u8]; exact rfl) ?_; intro w0 A
  have hX := And.intro d1 (And.intro d2 (And.intro e1 (d3)))
  (repeat refine DX_seq ?_); refine DX_reg [0, 1] ?_; intro w0 A S0 f0; (repeat ((with_reducible show DR _ _ _ (_ :: _) _); first | (refine cx _ (envG _ _ _ _ _ _) rfl rfl rfl rfl rfl ?_ (hc := by first | exact high_c _))  | (refine sx ?_))); refine DR_nil ?_; refine kl1 ?_
  (repeat refine DX_seq ?_); refine DX_drwq [1, 24] (by kernel_rfl) ?_; intro w0 A S0 f0; (repeat (first | (refine gtxq rfl rfl ?_) | (refine gxq ?_) | ((with_reducible show DRq _ _ _ (_ :: _) _); first | (refine cxq _ (envG _ _ _ _ _ _) rfl rfl rfl rfl rfl ?_ (hc := by first | exact high_c _)) | (refine sxq ?_)))); refine DRq_nil ?_; refine kl1 ?_
  (repeat refine DX_seq ?_); refine iftx ?_
  (repeat refine DX_seq ?_); refine DX_reg [4, 5] ?_; intro w0 A S0 f0; (repeat ((with_reducible show DR _ _ _ (_ :: _) _); first | (refine cx _ (envG _ _ _ _ _ _) rfl rfl rfl rfl rfl ?_ (hc := by first | exact high_c _))  | (refine sx ?_))); refine DR_nil ?_; refine kl1 ?_
  (repeat refine DX_seq ?_); refine DX_ret ?_; refine retx ?_; (try dsimp only [outV, unlist])
  exact Fin_pure rfl
set_option maxHeartbeats 4000000 in
theorem placeOk_c (m : Nat) (sig : List UInt8) (hm : m ≤ 7) (hl : sig.length = 1089 + 32 * m) (hi : (sig.getD 0 0).toNat < 2 ^ m) : PC (envOf Tryd.prog) 33 [iD (m : Int), strD sig] (plD (sig.getD 0 0).toNat) := by
  unfold plD
  have d1 := high_yes hm
  have d2 : decide ((sig.length : Int) = 1089 + (m : Int) * 32) = true := decide_eq_true (by omega)
  have hp := two_pow_big hm
  have hq := two_pow_pos' m
  have e1 := shl_h m
  have d3 : decide (((2 ^ m : Nat) : Int) ≤ ((sig.getD 0 0).toNat : Int)) = false := decide_eq_false (by omega)
  have hX := and_true; refine PC_atX Tryd.func33 rfl Tryd.ntmps33 Tryd.results33 rfl (by simp only [argsL, Nat.reduceAdd, u32D, u8D, iD, bD, strD, u32_xor, u32_or, u32_and, u32_add, u32_not, u32_shr, u32_shl, u8_u32, u32_u8]; exact rfl) ?_; intro w0 A
  have hX := And.intro d1 (And.intro d2 (And.intro e1 (d3)))
  (repeat refine DX_seq ?_); refine DX_reg [0, 1] ?_; intro w0 A S0 f0; (repeat ((with_reducible show DR _ _ _ (_ :: _) _); first | (refine cx _ (envG _ _ _ _ _ _) rfl rfl rfl rfl rfl ?_ (hc := by first | exact high_c _))  | (refine sx ?_))); refine DR_nil ?_; refine kl1 ?_
  (repeat refine DX_seq ?_); refine DX_drwq [1, 24] (by kernel_rfl) ?_; intro w0 A S0 f0; (repeat (first | (refine gtxq rfl rfl ?_) | (refine gxq ?_) | ((with_reducible show DRq _ _ _ (_ :: _) _); first | (refine cxq _ (envG _ _ _ _ _ _) rfl rfl rfl rfl rfl ?_ (hc := by first | exact high_c _)) | (refine sxq ?_)))); refine DRq_nil ?_; refine kl1 ?_
  (repeat refine DX_seq ?_); refine iffx ?_
  (repeat refine DX_seq ?_); refine DX_skip ?_
  (repeat refine DX_seq ?_); refine DX_reg [4, 5] ?_; intro w0 A S0 f0; (repeat ((with_reducible show DR _ _ _ (_ :: _) _); first | (refine cx _ (envG _ _ _ _ _ _) rfl rfl rfl rfl rfl ?_ (hc := by first | exact high_c _))  | (refine sx ?_))); refine DR_nil ?_; refine kl1 ?_
  (repeat refine DX_seq ?_); refine DX_ret ?_; refine retx ?_; (try dsimp only [outV, unlist])
  exact Fin_pure rfl
set_option maxHeartbeats 4000000 in
theorem refplaceNo_c (n : Int) (sig : List UInt8) (hbad : badP n sig) : PC (envOf Tryd.prog) 34 [iD n, strD sig] plN := by
  unfold plN
  by_cases c1 : n < 0 ∨ 7 < n
  · have d1 := high_no c1
    have hX := and_true; refine PC_atX Tryd.func34 rfl Tryd.ntmps34 Tryd.results34 rfl (by simp only [argsL, Nat.reduceAdd, u32D, u8D, iD, bD, strD, u32_xor, u32_or, u32_and, u32_add, u32_not, u32_shr, u32_shl, u8_u32, u32_u8]; exact rfl) ?_; intro w0 A
    have hX := And.intro d1 (and_true)
    (repeat refine DX_seq ?_); refine DX_reg [0, 1] ?_; intro w0 A S0 f0; (repeat ((with_reducible show DR _ _ _ (_ :: _) _); first | (refine cx _ (envG _ _ _ _ _ _) rfl rfl rfl rfl rfl ?_ (hc := by first | exact refhigh_c _))  | (refine sx ?_))); refine DR_nil ?_; refine kl1 ?_
    (repeat refine DX_seq ?_); refine DX_drwq [1, 24] (by kernel_rfl) ?_; intro w0 A S0 f0; (repeat (first | (refine gtxq rfl rfl ?_) | (refine gxq ?_) | ((with_reducible show DRq _ _ _ (_ :: _) _); first | (refine cxq _ (envG _ _ _ _ _ _) rfl rfl rfl rfl rfl ?_ (hc := by first | exact refhigh_c _)) | (refine sxq ?_)))); refine DRq_nil ?_; refine kl1 ?_
    (repeat refine DX_seq ?_); refine iftx ?_
    (repeat refine DX_seq ?_); refine DX_reg [4, 5] ?_; intro w0 A S0 f0; (repeat ((with_reducible show DR _ _ _ (_ :: _) _); first | (refine cx _ (envG _ _ _ _ _ _) rfl rfl rfl rfl rfl ?_ (hc := by first | exact refhigh_c _))  | (refine sx ?_))); refine DR_nil ?_; refine kl1 ?_
    (repeat refine DX_seq ?_); refine DX_ret ?_; refine retx ?_; (try dsimp only [outV, unlist])
    exact Fin_pure rfl
  obtain ⟨m, rfl⟩ : ∃ m : Nat, n = (m : Int) := ⟨n.toNat, by omega⟩
  have hm : m ≤ 7 := by omega
  have d1 := high_yes hm
  by_cases c2 : (sig.length : Int) = 1089 + 32 * (m : Int)
  case neg =>
    have d2 : decide ((sig.length : Int) = 1089 + 32 * (m : Int)) = false := decide_eq_false c2
    have hX := and_true; refine PC_atX Tryd.func34 rfl Tryd.ntmps34 Tryd.results34 rfl (by simp only [argsL, Nat.reduceAdd, u32D, u8D, iD, bD, strD, u32_xor, u32_or, u32_and, u32_add, u32_not, u32_shr, u32_shl, u8_u32, u32_u8]; exact rfl) ?_; intro w0 A
    have hX := And.intro d1 (d2)
    (repeat refine DX_seq ?_); refine DX_reg [0, 1] ?_; intro w0 A S0 f0; (repeat ((with_reducible show DR _ _ _ (_ :: _) _); first | (refine cx _ (envG _ _ _ _ _ _) rfl rfl rfl rfl rfl ?_ (hc := by first | exact refhigh_c _))  | (refine sx ?_))); refine DR_nil ?_; refine kl1 ?_
    (repeat refine DX_seq ?_); refine DX_drwq [1, 24] (by kernel_rfl) ?_; intro w0 A S0 f0; (repeat (first | (refine gtxq rfl rfl ?_) | (refine gxq ?_) | ((with_reducible show DRq _ _ _ (_ :: _) _); first | (refine cxq _ (envG _ _ _ _ _ _) rfl rfl rfl rfl rfl ?_ (hc := by first | exact refhigh_c _)) | (refine sxq ?_)))); refine DRq_nil ?_; refine kl1 ?_
    (repeat refine DX_seq ?_); refine iftx ?_
    (repeat refine DX_seq ?_); refine DX_reg [4, 5] ?_; intro w0 A S0 f0; (repeat ((with_reducible show DR _ _ _ (_ :: _) _); first | (refine cx _ (envG _ _ _ _ _ _) rfl rfl rfl rfl rfl ?_ (hc := by first | exact refhigh_c _))  | (refine sx ?_))); refine DR_nil ?_; refine kl1 ?_
    (repeat refine DX_seq ?_); refine DX_ret ?_; refine retx ?_; (try dsimp only [outV, unlist])
    exact Fin_pure rfl
  have d2 : decide ((sig.length : Int) = 1089 + 32 * (m : Int)) = true := decide_eq_true c2
  have hp := two_pow_big hm
  have hq := two_pow_pos' m
  have e1 := shl_h m
  have hx := UInt8.toNat_lt (sig.getD 0 0)
  have d3 : decide (((2 ^ m : Nat) : Int) ≤ ((sig.getD 0 0).toNat : Int)) = true := by
    rcases hbad with h | h | h | h
    · omega
    · omega
    · omega
    · rw [Int.toNat_natCast] at h; exact decide_eq_true (by omega)
  have hX := and_true; refine PC_atX Tryd.func34 rfl Tryd.ntmps34 Tryd.results34 rfl (by simp only [argsL, Nat.reduceAdd, u32D, u8D, iD, bD, strD, u32_xor, u32_or, u32_and, u32_add, u32_not, u32_shr, u32_shl, u8_u32, u32_u8]; exact rfl) ?_; intro w0 A
  have hX := And.intro d1 (And.intro d2 (And.intro e1 (d3)))
  (repeat refine DX_seq ?_); refine DX_reg [0, 1] ?_; intro w0 A S0 f0; (repeat ((with_reducible show DR _ _ _ (_ :: _) _); first | (refine cx _ (envG _ _ _ _ _ _) rfl rfl rfl rfl rfl ?_ (hc := by first | exact refhigh_c _ | exact places_c m hm))  | (refine sx ?_))); refine DR_nil ?_; refine kl1 ?_
  (repeat refine DX_seq ?_); refine DX_drwq [1, 24] (by kernel_rfl) ?_; intro w0 A S0 f0; (repeat (first | (refine gtxq rfl rfl ?_) | (refine gxq ?_) | ((with_reducible show DRq _ _ _ (_ :: _) _); first | (refine cxq _ (envG _ _ _ _ _ _) rfl rfl rfl rfl rfl ?_ (hc := by first | exact refhigh_c _ | exact places_c m hm)) | (refine sxq ?_)))); refine DRq_nil ?_; refine kl1 ?_
  (repeat refine DX_seq ?_); refine iftx ?_
  (repeat refine DX_seq ?_); refine DX_reg [4, 5] ?_; intro w0 A S0 f0; (repeat ((with_reducible show DR _ _ _ (_ :: _) _); first | (refine cx _ (envG _ _ _ _ _ _) rfl rfl rfl rfl rfl ?_ (hc := by first | exact refhigh_c _ | exact places_c m hm))  | (refine sx ?_))); refine DR_nil ?_; refine kl1 ?_
  (repeat refine DX_seq ?_); refine DX_ret ?_; refine retx ?_; (try dsimp only [outV, unlist])
  exact Fin_pure rfl
set_option maxHeartbeats 4000000 in
theorem refplaceOk_c (m : Nat) (sig : List UInt8) (hm : m ≤ 7) (hl : sig.length = 1089 + 32 * m) (hi : (sig.getD 0 0).toNat < 2 ^ m) : PC (envOf Tryd.prog) 34 [iD (m : Int), strD sig] (plD (sig.getD 0 0).toNat) := by
  unfold plD
  have d1 := high_yes hm
  have d2 : decide ((sig.length : Int) = 1089 + 32 * (m : Int)) = true := decide_eq_true (by omega)
  have hp := two_pow_big hm
  have hq := two_pow_pos' m
  have e1 := shl_h m
  have d3 : decide (((2 ^ m : Nat) : Int) ≤ ((sig.getD 0 0).toNat : Int)) = false := decide_eq_false (by omega)
  have hX := and_true; refine PC_atX Tryd.func34 rfl Tryd.ntmps34 Tryd.results34 rfl (by simp only [argsL, Nat.reduceAdd, u32D, u8D, iD, bD, strD, u32_xor, u32_or, u32_and, u32_add, u32_not, u32_shr, u32_shl, u8_u32, u32_u8]; exact rfl) ?_; intro w0 A
  have hX := And.intro d1 (And.intro d2 (And.intro e1 (d3)))
  (repeat refine DX_seq ?_); refine DX_reg [0, 1] ?_; intro w0 A S0 f0; (repeat ((with_reducible show DR _ _ _ (_ :: _) _); first | (refine cx _ (envG _ _ _ _ _ _) rfl rfl rfl rfl rfl ?_ (hc := by first | exact refhigh_c _ | exact places_c m hm))  | (refine sx ?_))); refine DR_nil ?_; refine kl1 ?_
  (repeat refine DX_seq ?_); refine DX_drwq [1, 24] (by kernel_rfl) ?_; intro w0 A S0 f0; (repeat (first | (refine gtxq rfl rfl ?_) | (refine gxq ?_) | ((with_reducible show DRq _ _ _ (_ :: _) _); first | (refine cxq _ (envG _ _ _ _ _ _) rfl rfl rfl rfl rfl ?_ (hc := by first | exact refhigh_c _ | exact places_c m hm)) | (refine sxq ?_)))); refine DRq_nil ?_; refine kl1 ?_
  (repeat refine DX_seq ?_); refine iffx ?_
  (repeat refine DX_seq ?_); refine DX_skip ?_
  (repeat refine DX_seq ?_); refine DX_reg [4, 5] ?_; intro w0 A S0 f0; (repeat ((with_reducible show DR _ _ _ (_ :: _) _); first | (refine cx _ (envG _ _ _ _ _ _) rfl rfl rfl rfl rfl ?_ (hc := by first | exact refhigh_c _ | exact places_c m hm))  | (refine sx ?_))); refine DR_nil ?_; refine kl1 ?_
  (repeat refine DX_seq ?_); refine DX_ret ?_; refine retx ?_; (try dsimp only [outV, unlist])
  exact Fin_pure rfl
end Go.Proofs.YtedioenakmgdiaaDoor
