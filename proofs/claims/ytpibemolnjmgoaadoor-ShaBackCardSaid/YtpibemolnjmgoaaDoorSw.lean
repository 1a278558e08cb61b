/- A block's words. -/
import Derived.Test.YtpibemolnjmgoaaDoorSa
import Derived.Test.YtpibemolnjmgoaaDoorDs
namespace Go.Proofs.YtpibemolnjmgoaaDoor
set_option linter.unusedSimpArgs false
set_option linter.unusedVariables false
open Go.RowKit
def be (l : List UInt8) (t : Nat) : UInt32 := (l.getD (4 * t) 0).toUInt32 <<< UInt32.ofNat 24 ||| (l.getD (4 * t + 1) 0).toUInt32 <<< UInt32.ofNat 16 ||| (l.getD (4 * t + 2) 0).toUInt32 <<< UInt32.ofNat 8 ||| (l.getD (4 * t + 3) 0).toUInt32
def sg0 (x : UInt32) : UInt32 := ror x 7 ^^^ ror x 18 ^^^ x >>> UInt32.ofNat 3
def sg1 (x : UInt32) : UInt32 := ror x 17 ^^^ ror x 19 ^^^ x >>> UInt32.ofNat 10
def W (l : List UInt8) (t : Nat) : UInt32 :=
  if t < 16 then be l t else W l (t - 16) + sg0 (W l (t - 15)) + W l (t - 7) + sg1 (W l (t - 2))
termination_by t
decreasing_by all_goals omega
def Wf (l : List UInt8) (t : Nat) : Nat → Int := fun j => if j < t then ((W l j).toNat : Int) else 0
theorem Wf_lt {l : List UInt8} {t j : Nat} (h : j < t) : Wf l t j = ((W l j).toNat : Int) := if_pos h
theorem Wf_succ (l : List UInt8) (t : Nat) : updI (Wf l t) t ((W l t).toNat : Int) = Wf l (t + 1) := by
  funext j
  unfold updI Wf
  by_cases h1 : j = t
  · subst h1; simp
  · by_cases h2 : j < t
    · rw [if_neg h1, if_pos h2, if_pos (by omega)]
    · rw [if_neg h1, if_neg h2, if_neg (by omega)]
theorem W_lo {l : List UInt8} {t : Nat} (h : t < 16) : W l t = be l t := by rw [W, if_pos h]
theorem W_hi {l : List UInt8} {t : Nat} (h : ¬ t < 16) : W l t = W l (t - 16) + sg0 (W l (t - 15)) + W l (t - 7) + sg1 (W l (t - 2)) := by rw [W, if_neg h]
theorem Wf_zero (l : List UInt8) : Wf l 0 = fun _ => 0 := by funext j; simp [Wf]
def bytesD (l : List UInt8) : D := .sl l 0 byteD
theorem bytesD_eq (l : List UInt8) : bytesD l = .sl l 0 byteD := rfl
def wordsD (l : List UInt8) : D := .arr .u32 64 (fun j => ((W l j).toNat : Int))
theorem wordsD_eq (l : List UInt8) : wordsD l = .arr .u32 64 (fun j => ((W l j).toNat : Int)) := rfl

set_option maxHeartbeats 4000000 in
theorem words_c (l : List UInt8) (hl : l.length = 64) : PC (envOf Tryd.prog) 44 [bytesD l] (wordsD l) := by
  have hX := and_true; refine PC_at Tryd.func44 rfl Tryd.ntmps44 Tryd.results44 rfl rfl (by simp only [argsL, Nat.reduceAdd, u32D, u8D, iD, bD, strD, u32_xor, u32_or, u32_and, u32_add, u32_not, u32_shr, u32_shl, u8_u32, u32_u8]; exact rfl) ?_; intro w0 A
  have hX := bytesD_eq
  (repeat refine DW_seq ?_); refine DW_reg ?_; (repeat (first | (refine DR_q1 _ rfl rfl rfl ?_) | (refine DR_call1 _ (envC _ _ _ _ _) rfl rfl rfl rfl rfl ?_ (hc := by first | exact turn_c _ _ (by omega) (by omega))) | (refine DR_e1 rfl (DO_alloc rfl rfl rfl) ?_) | (refine DR_e1 rfl (DO_box1 rfl rfl) ?_) | (refine DR_e1 rfl (DO_store1 rfl rfl) ?_) | (refine DR_g1 rfl rfl ?_) | (refine DR_skip1 rfl rfl rfl rfl ?_) | (refine DR_eqa1 _ rfl rfl rfl rfl ?_) | (refine DR_q2 _ rfl rfl rfl ?_))); (refine DR_nil ?_; refine DW_drop1 [0, 2] ?_)
  (repeat refine DW_seq ?_); refine DW_reg ?_; (repeat (first | (refine DR_q1 _ rfl rfl rfl ?_) | (refine DR_call1 _ (envC _ _ _ _ _) rfl rfl rfl rfl rfl ?_ (hc := by first | exact turn_c _ _ (by omega) (by omega))) | (refine DR_e1 rfl (DO_alloc rfl rfl rfl) ?_) | (refine DR_e1 rfl (DO_box1 rfl rfl) ?_) | (refine DR_e1 rfl (DO_store1 rfl rfl) ?_) | (refine DR_g1 rfl rfl ?_) | (refine DR_skip1 rfl rfl rfl rfl ?_) | (refine DR_eqa1 _ rfl rfl rfl rfl ?_) | (refine DR_q2 _ rfl rfl rfl ?_))); (refine DR_nil ?_; refine DW_drop1 [0, 2, 3] ?_)
  (repeat refine DW_seq ?_); refine DW_reg ?_; (repeat (first | (refine DR_q1 _ rfl rfl rfl ?_) | (refine DR_call1 _ (envC _ _ _ _ _) rfl rfl rfl rfl rfl ?_ (hc := by first | exact turn_c _ _ (by omega) (by omega))) | (refine DR_e1 rfl (DO_alloc rfl rfl rfl) ?_) | (refine DR_e1 rfl (DO_box1 rfl rfl) ?_) | (refine DR_e1 rfl (DO_store1 rfl rfl) ?_) | (refine DR_g1 rfl rfl ?_) | (refine DR_skip1 rfl rfl rfl rfl ?_) | (refine DR_eqa1 _ rfl rfl rfl rfl ?_) | (refine DR_q2 _ rfl rfl rfl ?_))); (refine DR_nil ?_; refine DW_drop1 [0, 2, 3, 10] ?_)
  (repeat refine DW_seq ?_); refine DW_block ?_
  refine DW_loop (fun m st => ∃ t, t + m = 16 ∧ st = mk [(0, bytesD l), (2, .ptr 0 0), (3, .ptr 1 0), (10, iD (t : Int))] [some (.one (.arr .u32 64 (fun _ => 0))), some (.one (.arr .u32 64 (Wf l t)))]) 16 ⟨_, Weak.refl _ _, 0, by omega, ?_⟩ ?_
  · simp [iD, bytesD, Wf_zero]
  rintro m _ ⟨t, ht, rfl⟩
  (repeat refine DW_seq ?_); refine DW_reg ?_; (repeat (first | (refine DR_q1 _ rfl rfl rfl ?_) | (refine DR_call1 _ (envC _ _ _ _ _) rfl rfl rfl rfl rfl ?_ (hc := by first | exact turn_c _ _ (by omega) (by omega))) | (refine DR_e1 rfl (DO_alloc rfl rfl rfl) ?_) | (refine DR_e1 rfl (DO_box1 rfl rfl) ?_) | (refine DR_e1 rfl (DO_store1 rfl rfl) ?_) | (refine DR_g1 rfl rfl ?_) | (refine DR_skip1 rfl rfl rfl rfl ?_) | (refine DR_eqa1 _ rfl rfl rfl rfl ?_) | (refine DR_q2 _ rfl rfl rfl ?_))); (refine DR_nil ?_; refine DW_drop1 [0, 2, 3, 10, 11] ?_)
  (repeat refine DW_seq ?_); refine DW_cond (by simp only [evD, mk, look, reduceIte, Nat.reduceEqDiff]; exact rfl) ?_ ?_
  · intro hc
    have htl : t < 16 := by have := of_decide_eq_true hc; omega
    refine DW_skip ?_
    refine DW_drop [0, 2, 3, 10] (by simp only [pick, kil, byteD, implies_true, setD, bslF, buildF, buildL, List.zip_cons_cons, List.zip_nil_right, List.zip_nil_left, pureD, rng0, rng1, rng2, rng3, rng4, rng5, rng6, rng7, rng8, List.getD_cons_zero, List.getD_cons_succ, Nat.reduceLeDiff, decide_true, decide_false, List.all_cons, List.all_nil, dqF, nilF, callQ, argsD, Op.operands, Call.operands, evD, cD, gip, upd, look, List.map, List.map_cons, List.map_nil, binF, binI, shI, binS, unF, wD, kLo, kHi, kMod, kBits, convF, loadF, fieldF, faddrF, indexF, iaddrF, lenF, lenD, sliceF, sliceD, cutL, bndF, sub, nc, aggT, aggB, scB, tnth, elems, L_B, L_mk, List.getElem?_cons_zero, List.getElem?_cons_succ, reduceIte, reduceCtorEq, Option.isSome, List.toList_toArray, Nat.reduceAdd, Nat.reduceSub, Nat.reduceMul, Nat.reduceEqDiff, Nat.reduceLT, Nat.reduceBEq, mkF, Bool.and_true, Bool.true_and, Bool.and_false, Bool.false_and, beq_self_eq_true, mkC, Int.reduceToNat, Int.toNat_natCast, Int.reduceAdd, Int.reduceSub, Int.reduceMul, Nat.zero_add, Nat.add_zero, Nat.mul_one, and_true, true_and, Option.getD_some, Option.getD_none, u32D, u8D, iD, bD, strD, u32_xor, u32_or, u32_and, u32_add, u32_not, u32_shr, u32_shl, u8_u32, u32_u8, hX]; exact rfl) ?_
    refine DW_seq ?_
    refine DW_block ?_
    (repeat refine DW_seq ?_); refine DW_reg ?_; (repeat (first | (refine DR_q1 _ rfl rfl rfl ?_) | (refine DR_call1 _ (envC _ _ _ _ _) rfl rfl rfl rfl rfl ?_ (hc := by first | exact turn_c _ _ (by omega) (by omega))) | (refine DR_e1 rfl (DO_alloc rfl rfl rfl) ?_) | (refine DR_e1 rfl (DO_box1 rfl rfl) ?_) | (refine DR_e1 rfl (DO_store1 rfl rfl) ?_) | (refine DR_g1 rfl rfl ?_) | (refine DR_skip1 rfl rfl rfl rfl ?_) | (refine DR_eqa1 _ rfl rfl rfl rfl ?_) | (refine DR_q2 _ rfl rfl rfl ?_))); (refine DR_nil ?_; refine DW_drop1 [0, 2, 3, 4, 10] ?_)
    have e0 : (4 * (t : Int)).toNat = 4 * t := by omega
    have e1 : (4 * (t : Int) + 1).toNat = 4 * t + 1 := by omega
    have e2 : (4 * (t : Int) + 2).toNat = 4 * t + 2 := by omega
    have e3 : (4 * (t : Int) + 3).toNat = 4 * t + 3 := by omega
    have hX := And.intro e0 (And.intro e1 (And.intro e2 (And.intro e3 (bytesD_eq))))
    (repeat refine DW_seq ?_); refine DW_drw 35 (by kernel_rfl) ?_; simp only [List.take, List.drop]; (repeat (first | (refine DRq_q1 _ rfl rfl rfl ?_) | (refine DRq_call1 _ (envC _ _ _ _ _) rfl rfl rfl rfl rfl ?_ (hc := by first | exact turn_c _ _ (by omega) (by omega))) | (refine DRq_g1 rfl rfl ?_) | (refine DRq_skip1 rfl rfl rfl rfl ?_) | (refine DRq_eqa1 _ rfl rfl rfl rfl ?_) | (refine DRq_q2 _ rfl rfl rfl ?_))); refine DRq_nil ?_; (repeat (first | (refine DR_q1 _ rfl rfl rfl ?_) | (refine DR_call1 _ (envC _ _ _ _ _) rfl rfl rfl rfl rfl ?_ (hc := by first | exact turn_c _ _ (by omega) (by omega))) | (refine DR_e1 rfl (DO_alloc rfl rfl rfl) ?_) | (refine DR_e1 rfl (DO_box1 rfl rfl) ?_) | (refine DR_e1 rfl (DO_store1 rfl rfl) ?_) | (refine DR_g1 rfl rfl ?_) | (refine DR_skip1 rfl rfl rfl rfl ?_) | (refine DR_eqa1 _ rfl rfl rfl rfl ?_) | (refine DR_q2 _ rfl rfl rfl ?_))); (refine DR_nil ?_; refine DW_drop1 [0, 2, 3, 10] ?_)
    have hX := And.intro and_true (bytesD_eq)
    refine DW_reg ?_; (repeat (first | (refine DR_q1 _ rfl rfl rfl ?_) | (refine DR_call1 _ (envC _ _ _ _ _) rfl rfl rfl rfl rfl ?_ (hc := by first | exact turn_c _ _ (by omega) (by omega))) | (refine DR_e1 rfl (DO_alloc rfl rfl rfl) ?_) | (refine DR_e1 rfl (DO_box1 rfl rfl) ?_) | (refine DR_e1 rfl (DO_store1 rfl rfl) ?_) | (refine DR_g1 rfl rfl ?_) | (refine DR_skip1 rfl rfl rfl rfl ?_) | (refine DR_eqa1 _ rfl rfl rfl rfl ?_) | (refine DR_q2 _ rfl rfl rfl ?_))); refine DR_nil ?_
    refine ⟨_, m - 1, Weak.pick [0, 2, 3, 10], by omega, t + 1, by omega, ?_⟩
    refine pk1 ?_
    rw [← Wf_succ, W_lo htl]
    rfl
  · intro hc
    have htl : t = 16 := by have := of_decide_eq_false hc; omega
    subst htl
    refine DW_exit ?_
    refine DW_drop1 [2, 3] ?_
    (repeat refine DW_seq ?_); refine DW_reg ?_; (repeat (first | (refine DR_q1 _ rfl rfl rfl ?_) | (refine DR_call1 _ (envC _ _ _ _ _) rfl rfl rfl rfl rfl ?_ (hc := by first | exact turn_c _ _ (by omega) (by omega))) | (refine DR_e1 rfl (DO_alloc rfl rfl rfl) ?_) | (refine DR_e1 rfl (DO_box1 rfl rfl) ?_) | (refine DR_e1 rfl (DO_store1 rfl rfl) ?_) | (refine DR_g1 rfl rfl ?_) | (refine DR_skip1 rfl rfl rfl rfl ?_) | (refine DR_eqa1 _ rfl rfl rfl rfl ?_) | (refine DR_q2 _ rfl rfl rfl ?_))); (refine DR_nil ?_; refine DW_drop1 [2, 3, 5] ?_)
    (repeat refine DW_seq ?_); refine DW_block ?_
    refine DW_loop (fun m st => ∃ t, t + m = 64 ∧ 16 ≤ t ∧ st = mk [(2, .ptr 0 0), (3, .ptr 1 0), (5, iD (t : Int))] [some (.one (.arr .u32 64 (fun _ => 0))), some (.one (.arr .u32 64 (Wf l t)))]) 48 ⟨_, Weak.refl _ _, 16, by omega, by omega, ?_⟩ ?_
    · simp [iD]
    clear m ht hc
    rintro m _ ⟨t, ht, ht16, rfl⟩
    (repeat refine DW_seq ?_); refine DW_reg ?_; (repeat (first | (refine DR_q1 _ rfl rfl rfl ?_) | (refine DR_call1 _ (envC _ _ _ _ _) rfl rfl rfl rfl rfl ?_ (hc := by first | exact turn_c _ _ (by omega) (by omega))) | (refine DR_e1 rfl (DO_alloc rfl rfl rfl) ?_) | (refine DR_e1 rfl (DO_box1 rfl rfl) ?_) | (refine DR_e1 rfl (DO_store1 rfl rfl) ?_) | (refine DR_g1 rfl rfl ?_) | (refine DR_skip1 rfl rfl rfl rfl ?_) | (refine DR_eqa1 _ rfl rfl rfl rfl ?_) | (refine DR_q2 _ rfl rfl rfl ?_))); (refine DR_nil ?_; refine DW_drop1 [2, 3, 5, 50] ?_)
    (repeat refine DW_seq ?_); refine DW_cond (by simp only [evD, mk, look, reduceIte, Nat.reduceEqDiff]; exact rfl) ?_ ?_
    · intro hc
      have htl : t < 64 := by have := of_decide_eq_true hc; omega
      refine DW_skip ?_
      refine DW_drop1 [2, 3, 5] ?_
      refine DW_seq ?_
      refine DW_block ?_
      have e15 : ((t : Int) - 15).toNat = t - 15 := by omega
      have e2 : ((t : Int) - 2).toNat = t - 2 := by omega
      have e16 : ((t : Int) - 16).toNat = t - 16 := by omega
      have e7 : ((t : Int) - 7).toNat = t - 7 := by omega
      have f15 : Wf l t (t - 15) = ((W l (t - 15)).toNat : Int) := Wf_lt (by omega)
      have f2 : Wf l t (t - 2) = ((W l (t - 2)).toNat : Int) := Wf_lt (by omega)
      have f16 : Wf l t (t - 16) = ((W l (t - 16)).toNat : Int) := Wf_lt (by omega)
      have f7 : Wf l t (t - 7) = ((W l (t - 7)).toNat : Int) := Wf_lt (by omega)
      have hX := And.intro e15 (And.intro e2 (And.intro e16 (And.intro e7 (And.intro f15 (And.intro f2 (And.intro f16 (And.intro f7 (bytesD_eq))))))))
      (repeat refine DW_seq ?_); (repeat refine DW_seq ?_); refine DW_drwq (by kernel_rfl) ?_; (repeat (first | (refine DRq_q1 _ rfl rfl rfl ?_) | (refine DRq_call1 _ (envC _ _ _ _ _) rfl rfl rfl rfl rfl ?_ (hc := by first | exact turn_c _ _ (by omega) (by omega))) | (refine DRq_g1 rfl rfl ?_) | (refine DRq_skip1 rfl rfl rfl rfl ?_) | (refine DRq_eqa1 _ rfl rfl rfl rfl ?_) | (refine DRq_q2 _ rfl rfl rfl ?_))); refine DRq_nil ?_; refine DW_drop1 [2, 3, 5, 6, 7] ?_
      (repeat refine DW_seq ?_); refine DW_reg ?_; (repeat (first | (refine DR_q1 _ rfl rfl rfl ?_) | (refine DR_call1 _ (envC _ _ _ _ _) rfl rfl rfl rfl rfl ?_ (hc := by first | exact turn_c _ _ (by omega) (by omega))) | (refine DR_e1 rfl (DO_alloc rfl rfl rfl) ?_) | (refine DR_e1 rfl (DO_box1 rfl rfl) ?_) | (refine DR_e1 rfl (DO_store1 rfl rfl) ?_) | (refine DR_g1 rfl rfl ?_) | (refine DR_skip1 rfl rfl rfl rfl ?_) | (refine DR_eqa1 _ rfl rfl rfl rfl ?_) | (refine DR_q2 _ rfl rfl rfl ?_))); (refine DR_nil ?_; refine DW_drop1 [2, 3, 5, 7, 8] ?_)
      (repeat refine DW_seq ?_); refine DW_reg ?_; (repeat (first | (refine DR_q1 _ rfl rfl rfl ?_) | (refine DR_call1 _ (envC _ _ _ _ _) rfl rfl rfl rfl rfl ?_ (hc := by first | exact turn_c _ _ (by omega) (by omega))) | (refine DR_e1 rfl (DO_alloc rfl rfl rfl) ?_) | (refine DR_e1 rfl (DO_box1 rfl rfl) ?_) | (refine DR_e1 rfl (DO_store1 rfl rfl) ?_) | (refine DR_g1 rfl rfl ?_) | (refine DR_skip1 rfl rfl rfl rfl ?_) | (refine DR_eqa1 _ rfl rfl rfl rfl ?_) | (refine DR_q2 _ rfl rfl rfl ?_))); (refine DR_nil ?_; refine DW_drop1 [2, 3, 5, 8, 9] ?_)
      (repeat refine DW_seq ?_); refine DW_drw 15 (by kernel_rfl) ?_; simp only [List.take, List.drop]; (repeat (first | (refine DRq_q1 _ rfl rfl rfl ?_) | (refine DRq_call1 _ (envC _ _ _ _ _) rfl rfl rfl rfl rfl ?_ (hc := by first | exact turn_c _ _ (by omega) (by omega))) | (refine DRq_g1 rfl rfl ?_) | (refine DRq_skip1 rfl rfl rfl rfl ?_) | (refine DRq_eqa1 _ rfl rfl rfl rfl ?_) | (refine DRq_q2 _ rfl rfl rfl ?_))); refine DRq_nil ?_; (repeat (first | (refine DR_q1 _ rfl rfl rfl ?_) | (refine DR_call1 _ (envC _ _ _ _ _) rfl rfl rfl rfl rfl ?_ (hc := by first | exact turn_c _ _ (by omega) (by omega))) | (refine DR_e1 rfl (DO_alloc rfl rfl rfl) ?_) | (refine DR_e1 rfl (DO_box1 rfl rfl) ?_) | (refine DR_e1 rfl (DO_store1 rfl rfl) ?_) | (refine DR_g1 rfl rfl ?_) | (refine DR_skip1 rfl rfl rfl rfl ?_) | (refine DR_eqa1 _ rfl rfl rfl rfl ?_) | (refine DR_q2 _ rfl rfl rfl ?_))); (refine DR_nil ?_; refine DW_drop1 [2, 3, 5] ?_)
      have hX := And.intro and_true (bytesD_eq)
      refine DW_reg ?_; (repeat (first | (refine DR_q1 _ rfl rfl rfl ?_) | (refine DR_call1 _ (envC _ _ _ _ _) rfl rfl rfl rfl rfl ?_ (hc := by first | exact turn_c _ _ (by omega) (by omega))) | (refine DR_e1 rfl (DO_alloc rfl rfl rfl) ?_) | (refine DR_e1 rfl (DO_box1 rfl rfl) ?_) | (refine DR_e1 rfl (DO_store1 rfl rfl) ?_) | (refine DR_g1 rfl rfl ?_) | (refine DR_skip1 rfl rfl rfl rfl ?_) | (refine DR_eqa1 _ rfl rfl rfl rfl ?_) | (refine DR_q2 _ rfl rfl rfl ?_))); refine DR_nil ?_
      refine ⟨_, m - 1, Weak.pick [2, 3, 5], by omega, t + 1, by omega, by omega, ?_⟩
      refine pk1 ?_
      have hW := W_hi (l := l) (t := t) (by omega)
      rw [← Wf_succ l t, hW]
      rfl
    · intro hc
      have htl : t = 64 := by have := of_decide_eq_false hc; omega
      subst htl
      refine DW_exit ?_
      refine DW_drop1 [2, 3] ?_
      (repeat refine DW_seq ?_); refine DW_reg ?_; (repeat (first | (refine DR_q1 _ rfl rfl rfl ?_) | (refine DR_call1 _ (envC _ _ _ _ _) rfl rfl rfl rfl rfl ?_ (hc := by first | exact turn_c _ _ (by omega) (by omega))) | (refine DR_e1 rfl (DO_alloc rfl rfl rfl) ?_) | (refine DR_e1 rfl (DO_box1 rfl rfl) ?_) | (refine DR_e1 rfl (DO_store1 rfl rfl) ?_) | (refine DR_g1 rfl rfl ?_) | (refine DR_skip1 rfl rfl rfl rfl ?_) | (refine DR_eqa1 _ rfl rfl rfl rfl ?_) | (refine DR_q2 _ rfl rfl rfl ?_))); (refine DR_nil ?_; refine DW_drop1 [2] ?_)
      refine DW_ret ?_; refine ⟨_, _, by simp only [outD, resD, outV, unlist, List.all, noTup, byteD, implies_true, setD, bslF, buildF, buildL, List.zip_cons_cons, List.zip_nil_right, List.zip_nil_left, pureD, rng0, rng1, rng2, rng3, rng4, rng5, rng6, rng7, rng8, List.getD_cons_zero, List.getD_cons_succ, Nat.reduceLeDiff, decide_true, decide_false, List.all_cons, List.all_nil, dqF, nilF, callQ, argsD, Op.operands, Call.operands, evD, cD, gip, upd, look, List.map, List.map_cons, List.map_nil, binF, binI, shI, binS, unF, wD, kLo, kHi, kMod, kBits, convF, loadF, fieldF, faddrF, indexF, iaddrF, lenF, lenD, sliceF, sliceD, cutL, bndF, sub, nc, aggT, aggB, scB, tnth, elems, L_B, L_mk, List.getElem?_cons_zero, List.getElem?_cons_succ, reduceIte, reduceCtorEq, Option.isSome, List.toList_toArray, Nat.reduceAdd, Nat.reduceSub, Nat.reduceMul, Nat.reduceEqDiff, Nat.reduceLT, Nat.reduceBEq, mkF, Bool.and_true, Bool.true_and, Bool.and_false, Bool.false_and, beq_self_eq_true, mkC, Int.reduceToNat, Int.toNat_natCast, Int.reduceAdd, Int.reduceSub, Int.reduceMul, Nat.zero_add, Nat.add_zero, Nat.mul_one, and_true, true_and, Option.getD_some, Option.getD_none, u32D, u8D, iD, bD, strD, u32_xor, u32_or, u32_and, u32_add, u32_not, u32_shr, u32_shl, u8_u32, u32_u8, envOf, tyT, gtab]; exact rfl, ?_, ?_⟩
      · trivial
      · exact Fin_arr fun i hi => Wf_lt hi
end Go.Proofs.YtpibemolnjmgoaaDoor
