/- A block's words: the document. -/
import Derived.Test.YtpibemolnjmgoaaDoorSw
namespace Go.Proofs.YtpibemolnjmgoaaDoor
set_option linter.unusedSimpArgs false
set_option linter.unusedVariables false
open Go.RowKit
def acc (l : List UInt8) (t : Nat) : Nat → UInt32
  | 0 => 0
  | i + 1 => acc l t i * 256 + (l.getD (4 * t + i) 0).toUInt32
theorem u32_mul256 (a : UInt32) : (a.toNat : Int) * 256 % 4294967296 = ((a * 256).toNat : Int) := by
  rw [UInt32.toNat_mul]
  have : (256 : UInt32).toNat = 256 := rfl
  rw [this]
  omega
theorem u32_addB (a : UInt32) (b : UInt8) : ((a.toNat : Int) + (b.toUInt32.toNat : Int)) % 4294967296 = ((a + b.toUInt32).toNat : Int) := u32_add a _
theorem or_add (a b : Nat) (i : Nat) (h : b < 2 ^ i) : a <<< i ||| b = a * 2 ^ i + b := by
  rw [← Nat.shiftLeft_add_eq_or_of_lt h, Nat.shiftLeft_eq]
theorem acc_be (l : List UInt8) (t : Nat) : acc l t 4 = be l t := by
  have key : ∀ (a b c d : UInt8), ((((0 : UInt32) * 256 + a.toUInt32) * 256 + b.toUInt32) * 256 + c.toUInt32) * 256 + d.toUInt32 = a.toUInt32 <<< UInt32.ofNat 24 ||| b.toUInt32 <<< UInt32.ofNat 16 ||| c.toUInt32 <<< UInt32.ofNat 8 ||| d.toUInt32 := by
    intro a b c d
    have ha := a.toNat_lt
    have hb := b.toNat_lt
    have hc := c.toNat_lt
    have hd := d.toNat_lt
    apply UInt32.toNat_inj.1
    simp only [UInt32.toNat_or, UInt32.toNat_shiftLeft, UInt32.toNat_add, UInt32.toNat_mul, UInt8.toNat_toUInt32]
    have e24 : (UInt32.ofNat 24).toNat % 32 = 24 := rfl
    have e16 : (UInt32.ofNat 16).toNat % 32 = 16 := rfl
    have e8 : (UInt32.ofNat 8).toNat % 32 = 8 := rfl
    rw [e24, e16, e8]
    have m24 : a.toNat <<< 24 % 2 ^ 32 = a.toNat <<< 24 := Nat.mod_eq_of_lt (by rw [Nat.shiftLeft_eq]; omega)
    have m16 : b.toNat <<< 16 % 2 ^ 32 = b.toNat <<< 16 := Nat.mod_eq_of_lt (by rw [Nat.shiftLeft_eq]; omega)
    have m8 : c.toNat <<< 8 % 2 ^ 32 = c.toNat <<< 8 := Nat.mod_eq_of_lt (by rw [Nat.shiftLeft_eq]; omega)
    rw [m24, m16, m8]
    have o1 : a.toNat <<< 24 ||| b.toNat <<< 16 = (a.toNat * 256 + b.toNat) <<< 16 := by
      rw [or_add _ _ 24 (by rw [Nat.shiftLeft_eq]; omega), Nat.shiftLeft_eq, Nat.shiftLeft_eq]
      omega
    have o2 : (a.toNat * 256 + b.toNat) <<< 16 ||| c.toNat <<< 8 = ((a.toNat * 256 + b.toNat) * 256 + c.toNat) <<< 8 := by
      rw [or_add _ _ 16 (by rw [Nat.shiftLeft_eq]; omega), Nat.shiftLeft_eq, Nat.shiftLeft_eq]
      omega
    rw [o1, o2, or_add _ _ 8 (by omega)]
    have z : (0 : UInt32).toNat = 0 := rfl
    have k : (256 : UInt32).toNat = 256 := rfl
    rw [z, k]
    omega
  simpa [acc, be] using key (l.getD (4 * t) 0) (l.getD (4 * t + 1) 0) (l.getD (4 * t + 2) 0) (l.getD (4 * t + 3) 0)
def Wg (l : List UInt8) (t i : Nat) : Nat → Int := fun j => if j = t then ((acc l t i).toNat : Int) else Wf l t j
theorem Wg_zero (l : List UInt8) (t : Nat) : Wf l t = Wg l t 0 := by
  funext j
  unfold Wg Wf
  by_cases h : j = t
  · subst h; simp [acc]
  · rw [if_neg h]
theorem Wg_four (l : List UInt8) (t : Nat) (h : t < 16) : Wg l t 4 = Wf l (t + 1) := by
  rw [← Wf_succ, W_lo h, ← acc_be]
  rfl
theorem Wg_succ (l : List UInt8) (t i : Nat) : updI (Wg l t i) t ((acc l t (i + 1)).toNat : Int) = Wg l t (i + 1) := by
  funext j
  unfold updI Wg
  by_cases h : j = t
  · rw [if_pos h, if_pos h]
  · rw [if_neg h, if_neg h, if_neg h]
theorem Wg_at (l : List UInt8) (t i : Nat) : Wg l t i t = ((acc l t i).toNat : Int) := if_pos rfl

set_option maxHeartbeats 4000000 in
theorem refwords_c (l : List UInt8) (hl : l.length = 64) : PC (envOf Tryd.prog) 35 [bytesD l] (wordsD l) := by
  have hX := and_true; refine PC_at Tryd.func35 rfl Tryd.ntmps35 Tryd.results35 rfl rfl (by simp only [argsL, Nat.reduceAdd, u32D, u8D, iD, bD, strD, u32_xor, u32_or, u32_and, u32_add, u32_not, u32_shr, u32_shl, u8_u32, u32_u8]; exact rfl) ?_; intro w0 A
  have hX := bytesD_eq
  (repeat refine DW_seq ?_); refine DW_reg ?_; (repeat (first | (refine DR_q1 _ rfl rfl rfl ?_) | (refine DR_call1 _ (envC _ _ _ _ _) rfl rfl rfl rfl rfl ?_ (hc := by first | exact turned_c _ _ (by omega) (by omega) | exact shifted_c _ _ (by omega) (by omega))) | (refine DR_e1 rfl (DO_alloc rfl rfl rfl) ?_) | (refine DR_e1 rfl (DO_box1 rfl rfl) ?_) | (refine DR_e1 rfl (DO_store1 rfl rfl) ?_) | (refine DR_g1 rfl rfl ?_) | (refine DR_skip1 rfl rfl rfl rfl ?_) | (refine DR_eqa1 _ rfl rfl rfl rfl ?_) | (refine DR_q2 _ rfl rfl rfl ?_))); (refine DR_nil ?_; refine DW_drop1 [0, 2] ?_)
  (repeat refine DW_seq ?_); refine DW_reg ?_; (repeat (first | (refine DR_q1 _ rfl rfl rfl ?_) | (refine DR_call1 _ (envC _ _ _ _ _) rfl rfl rfl rfl rfl ?_ (hc := by first | exact turned_c _ _ (by omega) (by omega) | exact shifted_c _ _ (by omega) (by omega))) | (refine DR_e1 rfl (DO_alloc rfl rfl rfl) ?_) | (refine DR_e1 rfl (DO_box1 rfl rfl) ?_) | (refine DR_e1 rfl (DO_store1 rfl rfl) ?_) | (refine DR_g1 rfl rfl ?_) | (refine DR_skip1 rfl rfl rfl rfl ?_) | (refine DR_eqa1 _ rfl rfl rfl rfl ?_) | (refine DR_q2 _ rfl rfl rfl ?_))); (refine DR_nil ?_; refine DW_drop1 [0, 2, 3] ?_)
  (repeat refine DW_seq ?_); refine DW_reg ?_; (repeat (first | (refine DR_q1 _ rfl rfl rfl ?_) | (refine DR_call1 _ (envC _ _ _ _ _) rfl rfl rfl rfl rfl ?_ (hc := by first | exact turned_c _ _ (by omega) (by omega) | exact shifted_c _ _ (by omega) (by omega))) | (refine DR_e1 rfl (DO_alloc rfl rfl rfl) ?_) | (refine DR_e1 rfl (DO_box1 rfl rfl) ?_) | (refine DR_e1 rfl (DO_store1 rfl rfl) ?_) | (refine DR_g1 rfl rfl ?_) | (refine DR_skip1 rfl rfl rfl rfl ?_) | (refine DR_eqa1 _ rfl rfl rfl rfl ?_) | (refine DR_q2 _ rfl rfl rfl ?_))); (refine DR_nil ?_; refine DW_drop1 [0, 2, 3, 4] ?_)
  (repeat refine DW_seq ?_); refine DW_block ?_
  refine DW_loop (fun m st => ∃ t, t + m = 16 ∧ st = mk [(0, bytesD l), (2, .ptr 0 0), (3, .ptr 1 0), (4, iD (t : Int))] [some (.one (.arr .u32 64 (fun _ => 0))), some (.one (.arr .u32 64 (Wf l t)))]) 16 ⟨_, Weak.refl _ _, 0, by omega, ?_⟩ ?_
  · simp [iD, bytesD, Wf_zero]
  rintro m _ ⟨t, ht, rfl⟩
  (repeat refine DW_seq ?_); refine DW_reg ?_; (repeat (first | (refine DR_q1 _ rfl rfl rfl ?_) | (refine DR_call1 _ (envC _ _ _ _ _) rfl rfl rfl rfl rfl ?_ (hc := by first | exact turned_c _ _ (by omega) (by omega) | exact shifted_c _ _ (by omega) (by omega))) | (refine DR_e1 rfl (DO_alloc rfl rfl rfl) ?_) | (refine DR_e1 rfl (DO_box1 rfl rfl) ?_) | (refine DR_e1 rfl (DO_store1 rfl rfl) ?_) | (refine DR_g1 rfl rfl ?_) | (refine DR_skip1 rfl rfl rfl rfl ?_) | (refine DR_eqa1 _ rfl rfl rfl rfl ?_) | (refine DR_q2 _ rfl rfl rfl ?_))); (refine DR_nil ?_; refine DW_drop1 [0, 2, 3, 4, 12] ?_)
  (repeat refine DW_seq ?_); refine DW_cond (by simp only [evD, mk, look, reduceIte, Nat.reduceEqDiff]; exact rfl) ?_ ?_
  · intro hc
    have htl : t < 16 := by have := of_decide_eq_true hc; omega
    refine DW_skip ?_
    refine DW_drop1 [0, 2, 3, 4] ?_
    refine DW_seq ?_
    refine DW_block ?_
    (repeat refine DW_seq ?_); refine DW_reg ?_; (repeat (first | (refine DR_q1 _ rfl rfl rfl ?_) | (refine DR_call1 _ (envC _ _ _ _ _) rfl rfl rfl rfl rfl ?_ (hc := by first | exact turned_c _ _ (by omega) (by omega) | exact shifted_c _ _ (by omega) (by omega))) | (refine DR_e1 rfl (DO_alloc rfl rfl rfl) ?_) | (refine DR_e1 rfl (DO_box1 rfl rfl) ?_) | (refine DR_e1 rfl (DO_store1 rfl rfl) ?_) | (refine DR_g1 rfl rfl ?_) | (refine DR_skip1 rfl rfl rfl rfl ?_) | (refine DR_eqa1 _ rfl rfl rfl rfl ?_) | (refine DR_q2 _ rfl rfl rfl ?_))); (refine DR_nil ?_; refine DW_drop1 [0, 2, 3, 4, 5] ?_)
    refine DW_block ?_
    rw [Wg_zero]
    refine DW_loop (fun m' st => ∃ i, i + m' = 4 ∧ st = mk [(0, bytesD l), (2, .ptr 0 0), (3, .ptr 1 0), (4, iD (t : Int)), (5, iD (i : Int))] [some (.one (.arr .u32 64 (fun _ => 0))), some (.one (.arr .u32 64 (Wg l t i)))]) 4 ⟨_, Weak.refl _ _, 0, by omega, ?_⟩ ?_
    · simp [iD, bytesD]
    rintro m' _ ⟨i, hi, rfl⟩
    (repeat refine DW_seq ?_); refine DW_reg ?_; (repeat (first | (refine DR_q1 _ rfl rfl rfl ?_) | (refine DR_call1 _ (envC _ _ _ _ _) rfl rfl rfl rfl rfl ?_ (hc := by first | exact turned_c _ _ (by omega) (by omega) | exact shifted_c _ _ (by omega) (by omega))) | (refine DR_e1 rfl (DO_alloc rfl rfl rfl) ?_) | (refine DR_e1 rfl (DO_box1 rfl rfl) ?_) | (refine DR_e1 rfl (DO_store1 rfl rfl) ?_) | (refine DR_g1 rfl rfl ?_) | (refine DR_skip1 rfl rfl rfl rfl ?_) | (refine DR_eqa1 _ rfl rfl rfl rfl ?_) | (refine DR_q2 _ rfl rfl rfl ?_))); (refine DR_nil ?_; refine DW_drop1 [0, 2, 3, 4, 5, 16] ?_)
    (repeat refine DW_seq ?_); refine DW_cond (by simp only [evD, mk, look, reduceIte, Nat.reduceEqDiff]; exact rfl) ?_ ?_
    · intro hc2
      have hil : i < 4 := by have := of_decide_eq_true hc2; omega
      refine DW_skip ?_
      refine DW_drop1 [0, 2, 3, 4, 5] ?_
      refine DW_seq ?_
      refine DW_block ?_
      have e0 : (4 * (t : Int) + (i : Int)).toNat = 4 * t + i := by omega
      have f0 : Wg l t i t = ((acc l t i).toNat : Int) := Wg_at l t i
      have hX := And.intro e0 (And.intro f0 (And.intro u32_mul256 (And.intro u32_addB (bytesD_eq))))
      (repeat refine DW_seq ?_); refine DW_drw 15 (by kernel_rfl) ?_; simp only [List.take, List.drop]; (repeat (first | (refine DRq_q1 _ rfl rfl rfl ?_) | (refine DRq_call1 _ (envC _ _ _ _ _) rfl rfl rfl rfl rfl ?_ (hc := by first | exact turned_c _ _ (by omega) (by omega) | exact shifted_c _ _ (by omega) (by omega))) | (refine DRq_g1 rfl rfl ?_) | (refine DRq_skip1 rfl rfl rfl rfl ?_) | (refine DRq_eqa1 _ rfl rfl rfl rfl ?_) | (refine DRq_q2 _ rfl rfl rfl ?_))); refine DRq_nil ?_; (repeat (first | (refine DR_q1 _ rfl rfl rfl ?_) | (refine DR_call1 _ (envC _ _ _ _ _) rfl rfl rfl rfl rfl ?_ (hc := by first | exact turned_c _ _ (by omega) (by omega) | exact shifted_c _ _ (by omega) (by omega))) | (refine DR_e1 rfl (DO_alloc rfl rfl rfl) ?_) | (refine DR_e1 rfl (DO_box1 rfl rfl) ?_) | (refine DR_e1 rfl (DO_store1 rfl rfl) ?_) | (refine DR_g1 rfl rfl ?_) | (refine DR_skip1 rfl rfl rfl rfl ?_) | (refine DR_eqa1 _ rfl rfl rfl rfl ?_) | (refine DR_q2 _ rfl rfl rfl ?_))); (refine DR_nil ?_; refine DW_drop1 [0, 2, 3, 4, 5] ?_)
      have hX := And.intro and_true (bytesD_eq)
      refine DW_reg ?_; (repeat (first | (refine DR_q1 _ rfl rfl rfl ?_) | (refine DR_call1 _ (envC _ _ _ _ _) rfl rfl rfl rfl rfl ?_ (hc := by first | exact turned_c _ _ (by omega) (by omega) | exact shifted_c _ _ (by omega) (by omega))) | (refine DR_e1 rfl (DO_alloc rfl rfl rfl) ?_) | (refine DR_e1 rfl (DO_box1 rfl rfl) ?_) | (refine DR_e1 rfl (DO_store1 rfl rfl) ?_) | (refine DR_g1 rfl rfl ?_) | (refine DR_skip1 rfl rfl rfl rfl ?_) | (refine DR_eqa1 _ rfl rfl rfl rfl ?_) | (refine DR_q2 _ rfl rfl rfl ?_))); refine DR_nil ?_
      refine ⟨_, m' - 1, Weak.pick [0, 2, 3, 4, 5], by omega, i + 1, by omega, ?_⟩
      refine pk1 ?_
      rw [← Wg_succ]
      rfl
    · intro hc2
      have hi4 : i = 4 := by have := of_decide_eq_false hc2; omega
      subst hi4
      refine DW_exit ?_
      refine DW_drop1 [0, 2, 3, 4] ?_
      rw [Wg_four l t htl]
      refine DW_reg ?_; (repeat (first | (refine DR_q1 _ rfl rfl rfl ?_) | (refine DR_call1 _ (envC _ _ _ _ _) rfl rfl rfl rfl rfl ?_ (hc := by first | exact turned_c _ _ (by omega) (by omega) | exact shifted_c _ _ (by omega) (by omega))) | (refine DR_e1 rfl (DO_alloc rfl rfl rfl) ?_) | (refine DR_e1 rfl (DO_box1 rfl rfl) ?_) | (refine DR_e1 rfl (DO_store1 rfl rfl) ?_) | (refine DR_g1 rfl rfl ?_) | (refine DR_skip1 rfl rfl rfl rfl ?_) | (refine DR_eqa1 _ rfl rfl rfl rfl ?_) | (refine DR_q2 _ rfl rfl rfl ?_))); refine DR_nil ?_
      refine ⟨_, m - 1, Weak.pick [0, 2, 3, 4], by omega, t + 1, by omega, ?_⟩
      refine pk1 ?_
      rfl
  · intro hc
    have htl : t = 16 := by have := of_decide_eq_false hc; omega
    subst htl
    refine DW_exit ?_
    refine DW_drop1 [2, 3] ?_
    (repeat refine DW_seq ?_); refine DW_reg ?_; (repeat (first | (refine DR_q1 _ rfl rfl rfl ?_) | (refine DR_call1 _ (envC _ _ _ _ _) rfl rfl rfl rfl rfl ?_ (hc := by first | exact turned_c _ _ (by omega) (by omega) | exact shifted_c _ _ (by omega) (by omega))) | (refine DR_e1 rfl (DO_alloc rfl rfl rfl) ?_) | (refine DR_e1 rfl (DO_box1 rfl rfl) ?_) | (refine DR_e1 rfl (DO_store1 rfl rfl) ?_) | (refine DR_g1 rfl rfl ?_) | (refine DR_skip1 rfl rfl rfl rfl ?_) | (refine DR_eqa1 _ rfl rfl rfl rfl ?_) | (refine DR_q2 _ rfl rfl rfl ?_))); (refine DR_nil ?_; refine DW_drop1 [2, 3, 6] ?_)
    (repeat refine DW_seq ?_); refine DW_block ?_
    refine DW_loop (fun m st => ∃ t, t + m = 64 ∧ 16 ≤ t ∧ st = mk [(2, .ptr 0 0), (3, .ptr 1 0), (6, iD (t : Int))] [some (.one (.arr .u32 64 (fun _ => 0))), some (.one (.arr .u32 64 (Wf l t)))]) 48 ⟨_, Weak.refl _ _, 16, by omega, by omega, ?_⟩ ?_
    · simp [iD]
    clear m ht hc
    rintro m _ ⟨t, ht, ht16, rfl⟩
    (repeat refine DW_seq ?_); refine DW_reg ?_; (repeat (first | (refine DR_q1 _ rfl rfl rfl ?_) | (refine DR_call1 _ (envC _ _ _ _ _) rfl rfl rfl rfl rfl ?_ (hc := by first | exact turned_c _ _ (by omega) (by omega) | exact shifted_c _ _ (by omega) (by omega))) | (refine DR_e1 rfl (DO_alloc rfl rfl rfl) ?_) | (refine DR_e1 rfl (DO_box1 rfl rfl) ?_) | (refine DR_e1 rfl (DO_store1 rfl rfl) ?_) | (refine DR_g1 rfl rfl ?_) | (refine DR_skip1 rfl rfl rfl rfl ?_) | (refine DR_eqa1 _ rfl rfl rfl rfl ?_) | (refine DR_q2 _ rfl rfl rfl ?_))); (refine DR_nil ?_; refine DW_drop1 [2, 3, 6, 35] ?_)
    (repeat refine DW_seq ?_); refine DW_cond (by simp only [evD, mk, look, reduceIte, Nat.reduceEqDiff]; exact rfl) ?_ ?_
    · intro hc
      have htl : t < 64 := by have := of_decide_eq_true hc; omega
      refine DW_skip ?_
      refine DW_drop1 [2, 3, 6] ?_
      refine DW_seq ?_
      refine DW_block ?_
      have e15 : ((t : Int) - 15).toNat = t - 15 := by omega
      have e2 : ((t : Int) - 2).toNat = t - 2 := by omega
      have e16 : ((t : Int) - 16).toNat = t - 16 := by omega
      have e7 : ((t : Int) - 7).toNat = t - 7 := by omega
      have f15 : Wf l t (t - 15) = ((W l (t - 15)).toNat : Int) := Wf_lt (by omega)
      have f2 : Wf l t (t - 2) = ((W l (t - 2)).toNat : Int) := Wf_lt (by omega)
      have f16 : Wf l t (t - 16) = ((W l (t - 16)).toNat : Int) := Wf_lt (by omega)
      have f7 : Wf l t (t - 7) = ((W l (t - 7)).toNat : Int) := Wf_lt (by omega)
      have hX := And.intro e15 (And.intro e2 (And.intro e16 (And.intro e7 (And.intro f15 (And.intro f2 (And.intro f16 (And.intro f7 (bytesD_eq))))))))
      (repeat refine DW_seq ?_); (repeat refine DW_seq ?_); refine DW_drwq (by kernel_rfl) ?_; (repeat (first | (refine DRq_q1 _ rfl rfl rfl ?_) | (refine DRq_call1 _ (envC _ _ _ _ _) rfl rfl rfl rfl rfl ?_ (hc := by first | exact turned_c _ _ (by omega) (by omega) | exact shifted_c _ _ (by omega) (by omega))) | (refine DRq_g1 rfl rfl ?_) | (refine DRq_skip1 rfl rfl rfl rfl ?_) | (refine DRq_eqa1 _ rfl rfl rfl rfl ?_) | (refine DRq_q2 _ rfl rfl rfl ?_))); refine DRq_nil ?_; refine DW_drop1 [2, 3, 6, 7, 8] ?_
      (repeat refine DW_seq ?_); refine DW_reg ?_; (repeat (first | (refine DR_q1 _ rfl rfl rfl ?_) | (refine DR_call1 _ (envC _ _ _ _ _) rfl rfl rfl rfl rfl ?_ (hc := by first | exact turned_c _ _ (by omega) (by omega) | exact shifted_c _ _ (by omega) (by omega))) | (refine DR_e1 rfl (DO_alloc rfl rfl rfl) ?_) | (refine DR_e1 rfl (DO_box1 rfl rfl) ?_) | (refine DR_e1 rfl (DO_store1 rfl rfl) ?_) | (refine DR_g1 rfl rfl ?_) | (refine DR_skip1 rfl rfl rfl rfl ?_) | (refine DR_eqa1 _ rfl rfl rfl rfl ?_) | (refine DR_q2 _ rfl rfl rfl ?_))); (refine DR_nil ?_; refine DW_drop1 [2, 3, 6, 8, 9] ?_)
      (repeat refine DW_seq ?_); refine DW_reg ?_; (repeat (first | (refine DR_q1 _ rfl rfl rfl ?_) | (refine DR_call1 _ (envC _ _ _ _ _) rfl rfl rfl rfl rfl ?_ (hc := by first | exact turned_c _ _ (by omega) (by omega) | exact shifted_c _ _ (by omega) (by omega))) | (refine DR_e1 rfl (DO_alloc rfl rfl rfl) ?_) | (refine DR_e1 rfl (DO_box1 rfl rfl) ?_) | (refine DR_e1 rfl (DO_store1 rfl rfl) ?_) | (refine DR_g1 rfl rfl ?_) | (refine DR_skip1 rfl rfl rfl rfl ?_) | (refine DR_eqa1 _ rfl rfl rfl rfl ?_) | (refine DR_q2 _ rfl rfl rfl ?_))); (refine DR_nil ?_; refine DW_drop1 [2, 3, 6, 9, 10] ?_)
      (repeat refine DW_seq ?_); refine DW_drw 15 (by kernel_rfl) ?_; simp only [List.take, List.drop]; (repeat (first | (refine DRq_q1 _ rfl rfl rfl ?_) | (refine DRq_call1 _ (envC _ _ _ _ _) rfl rfl rfl rfl rfl ?_ (hc := by first | exact turned_c _ _ (by omega) (by omega) | exact shifted_c _ _ (by omega) (by omega))) | (refine DRq_g1 rfl rfl ?_) | (refine DRq_skip1 rfl rfl rfl rfl ?_) | (refine DRq_eqa1 _ rfl rfl rfl rfl ?_) | (refine DRq_q2 _ rfl rfl rfl ?_))); refine DRq_nil ?_; (repeat (first | (refine DR_q1 _ rfl rfl rfl ?_) | (refine DR_call1 _ (envC _ _ _ _ _) rfl rfl rfl rfl rfl ?_ (hc := by first | exact turned_c _ _ (by omega) (by omega) | exact shifted_c _ _ (by omega) (by omega))) | (refine DR_e1 rfl (DO_alloc rfl rfl rfl) ?_) | (refine DR_e1 rfl (DO_box1 rfl rfl) ?_) | (refine DR_e1 rfl (DO_store1 rfl rfl) ?_) | (refine DR_g1 rfl rfl ?_) | (refine DR_skip1 rfl rfl rfl rfl ?_) | (refine DR_eqa1 _ rfl rfl rfl rfl ?_) | (refine DR_q2 _ rfl rfl rfl ?_))); (refine DR_nil ?_; refine DW_drop1 [2, 3, 6] ?_)
      have hX := And.intro and_true (bytesD_eq)
      refine DW_reg ?_; (repeat (first | (refine DR_q1 _ rfl rfl rfl ?_) | (refine DR_call1 _ (envC _ _ _ _ _) rfl rfl rfl rfl rfl ?_ (hc := by first | exact turned_c _ _ (by omega) (by omega) | exact shifted_c _ _ (by omega) (by omega))) | (refine DR_e1 rfl (DO_alloc rfl rfl rfl) ?_) | (refine DR_e1 rfl (DO_box1 rfl rfl) ?_) | (refine DR_e1 rfl (DO_store1 rfl rfl) ?_) | (refine DR_g1 rfl rfl ?_) | (refine DR_skip1 rfl rfl rfl rfl ?_) | (refine DR_eqa1 _ rfl rfl rfl rfl ?_) | (refine DR_q2 _ rfl rfl rfl ?_))); refine DR_nil ?_
      refine ⟨_, m - 1, Weak.pick [2, 3, 6], by omega, t + 1, by omega, by omega, ?_⟩
      refine pk1 ?_
      have hW := W_hi (l := l) (t := t) (by omega)
      rw [← Wf_succ l t, hW]
      rfl
    · intro hc
      have htl : t = 64 := by have := of_decide_eq_false hc; omega
      subst htl
      refine DW_exit ?_
      refine DW_drop1 [2, 3] ?_
      (repeat refine DW_seq ?_); refine DW_reg ?_; (repeat (first | (refine DR_q1 _ rfl rfl rfl ?_) | (refine DR_call1 _ (envC _ _ _ _ _) rfl rfl rfl rfl rfl ?_ (hc := by first | exact turned_c _ _ (by omega) (by omega) | exact shifted_c _ _ (by omega) (by omega))) | (refine DR_e1 rfl (DO_alloc rfl rfl rfl) ?_) | (refine DR_e1 rfl (DO_box1 rfl rfl) ?_) | (refine DR_e1 rfl (DO_store1 rfl rfl) ?_) | (refine DR_g1 rfl rfl ?_) | (refine DR_skip1 rfl rfl rfl rfl ?_) | (refine DR_eqa1 _ rfl rfl rfl rfl ?_) | (refine DR_q2 _ rfl rfl rfl ?_))); (refine DR_nil ?_; refine DW_drop1 [2] ?_)
      refine DW_ret ?_; refine ⟨_, _, by simp only [outD, resD, outV, unlist, List.all, noTup, byteD, implies_true, setD, bslF, buildF, buildL, List.zip_cons_cons, List.zip_nil_right, List.zip_nil_left, pureD, rng0, rng1, rng2, rng3, rng4, rng5, rng6, rng7, rng8, List.getD_cons_zero, List.getD_cons_succ, Nat.reduceLeDiff, decide_true, decide_false, List.all_cons, List.all_nil, dqF, nilF, callQ, argsD, Op.operands, Call.operands, evD, cD, gip, upd, look, List.map, List.map_cons, List.map_nil, binF, binI, shI, binS, unF, wD, kLo, kHi, kMod, kBits, convF, loadF, fieldF, faddrF, indexF, iaddrF, lenF, lenD, sliceF, sliceD, cutL, bndF, sub, nc, aggT, aggB, scB, tnth, elems, L_B, L_mk, List.getElem?_cons_zero, List.getElem?_cons_succ, reduceIte, reduceCtorEq, Option.isSome, List.toList_toArray, Nat.reduceAdd, Nat.reduceSub, Nat.reduceMul, Nat.reduceEqDiff, Nat.reduceLT, Nat.reduceBEq, mkF, Bool.and_true, Bool.true_and, Bool.and_false, Bool.false_and, beq_self_eq_true, mkC, Int.reduceToNat, Int.toNat_natCast, Int.reduceAdd, Int.reduceSub, Int.reduceMul, Nat.zero_add, Nat.add_zero, Nat.mul_one, and_true, true_and, Option.getD_some, Option.getD_none, u32D, u8D, iD, bD, strD, u32_xor, u32_or, u32_and, u32_add, u32_not, u32_shr, u32_shl, u8_u32, u32_u8, envOf, tyT, gtab]; exact rfl, ?_, ?_⟩
      · trivial
      · exact Fin_arr fun i hi => Wf_lt hi
end Go.Proofs.YtpibemolnjmgoaaDoor
