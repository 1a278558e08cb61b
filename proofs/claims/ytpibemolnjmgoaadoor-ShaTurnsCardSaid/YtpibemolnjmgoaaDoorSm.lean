/- The sum of bytes. -/
import Derived.Test.YtpibemolnjmgoaaDoorSb
import Derived.Test.YtpibemolnjmgoaaDoorEv
import Derived.Test.YtpibemolnjmgoaaDoorSf
namespace Go.Proofs.YtpibemolnjmgoaaDoor
set_option linter.unusedSimpArgs false
set_option linter.unusedVariables false
open Go.RowKit
def blk (l : List UInt8) (i : Nat) : List UInt8 := (l.drop (64 * i)).take 64
def runV (l : List UInt8) (V : Nat → UInt32) : Nat → Nat → UInt32
  | 0 => V
  | i + 1 => addS (blk l i) (runV l V i)
def V0 : Nat → UInt32 := fun i => ([0x6a09e667, 0xbb67ae85, 0x3c6ef372, 0xa54ff53a, 0x510e527f, 0x9b05688c, 0x1f83d9ab, 0x5be0cd19] : List UInt32).getD i 0
def sumP (l : List UInt8) : List UInt8 := sumB (runV (fillS (l.drop (64 * (l.length / 64))) l.length) (runV l V0 (l.length / 64)) ((fillS (l.drop (64 * (l.length / 64))) l.length).length / 64))
theorem fillS_len (l : List UInt8) (n : Nat) : (fillS l n).length = l.length + 1 + padZ (l.length + 1) + 8 := by simp [fillS, fillB_len]
theorem fillS_mod (l : List UInt8) (n : Nat) : (fillS l n).length % 64 = 0 := by rw [fillS_len]; unfold padZ; omega
theorem blk_len {l : List UInt8} {i : Nat} (h : 64 * i + 64 ≤ l.length) : (blk l i).length = 64 := by simp [blk]; omega
theorem vf_V0 : (fun i => (([0x6a09e667, 0xbb67ae85, 0x3c6ef372, 0xa54ff53a, 0x510e527f, 0x9b05688c, 0x1f83d9ab, 0x5be0cd19] : List UInt32).getD i 0).toNat : Nat → Int) = vf V0 := rfl

set_option maxHeartbeats 4000000 in
theorem sum_c (l : List UInt8) (hl : l.length ≤ 1048576) : PC (envOf Tryd.prog) 12 [strD l] (hashD (sumP l)) := by
  have hX := and_true; refine PC_at Tryd.func12 rfl Tryd.ntmps12 Tryd.results12 rfl rfl (by simp only [argsL, Nat.reduceAdd, u32D, u8D, iD, bD, strD, u32_xor, u32_or, u32_and, u32_add, u32_not, u32_shr, u32_shl, u8_u32, u32_u8]; exact rfl) ?_; intro w0 A
  have hX := And.intro sumD_eq (And.intro vf_at (And.intro bytesD_eq (vf_V0)))
  (repeat refine DW_seq ?_); refine DW_reg ?_; (repeat (first | (refine DR_q1 _ rfl rfl rfl ?_) | (refine DR_call1 _ (envC _ _ _ _ _) rfl rfl rfl rfl rfl ?_ (hc := by first | fail)) | (refine DR_e1 rfl (DO_alloc rfl rfl rfl) ?_) | (refine DR_e1 rfl (DO_box1 rfl rfl) ?_) | (refine DR_e1 rfl (DO_store1 rfl rfl) ?_) | (refine DR_g1 rfl rfl ?_) | (refine DR_skip1 rfl rfl rfl rfl ?_) | (refine DR_eqa1 _ rfl rfl rfl rfl ?_) | (refine DR_q2 _ rfl rfl rfl ?_))); (refine DR_nil ?_; refine DW_drop1 [0, 2] ?_)
  (repeat refine DW_seq ?_); refine DW_reg ?_; (repeat (first | (refine DR_q1 _ rfl rfl rfl ?_) | (refine DR_call1 _ (envC _ _ _ _ _) rfl rfl rfl rfl rfl ?_ (hc := by first | fail)) | (refine DR_e1 rfl (DO_alloc rfl rfl rfl) ?_) | (refine DR_e1 rfl (DO_box1 rfl rfl) ?_) | (refine DR_e1 rfl (DO_store1 rfl rfl) ?_) | (refine DR_g1 rfl rfl ?_) | (refine DR_skip1 rfl rfl rfl rfl ?_) | (refine DR_eqa1 _ rfl rfl rfl rfl ?_) | (refine DR_q2 _ rfl rfl rfl ?_))); (refine DR_nil ?_; refine DW_drop1 [0, 2, 3] ?_)
  (repeat refine DW_seq ?_); refine DW_reg ?_; (repeat (first | (refine DR_q1 _ rfl rfl rfl ?_) | (refine DR_call1 _ (envC _ _ _ _ _) rfl rfl rfl rfl rfl ?_ (hc := by first | fail)) | (refine DR_e1 rfl (DO_alloc rfl rfl rfl) ?_) | (refine DR_e1 rfl (DO_box1 rfl rfl) ?_) | (refine DR_e1 rfl (DO_store1 rfl rfl) ?_) | (refine DR_g1 rfl rfl ?_) | (refine DR_skip1 rfl rfl rfl rfl ?_) | (refine DR_eqa1 _ rfl rfl rfl rfl ?_) | (refine DR_q2 _ rfl rfl rfl ?_))); (refine DR_nil ?_; refine DW_drop1 [0, 2, 3, 4] ?_)
  (repeat refine DW_seq ?_); refine DW_block ?_
  refine DW_loop (fun m st => ∃ i, i + m = l.length / 64 ∧ st = mk [(0, strD (l.drop (64 * i))), (2, .ptr 0 0), (3, .ptr 1 0), (4, iD (l.length : Int))] [some (.one (.arr .u8 32 (fun _ => 0))), some (.one (.arr .u32 8 (vf (runV l V0 i))))]) (l.length / 64) ⟨_, Weak.refl _ _, 0, by omega, ?_⟩ ?_
  · simp [iD, strD, runV]
  rintro m _ ⟨i, hi, rfl⟩
  have hdl : (l.drop (64 * i)).length = l.length - 64 * i := by simp
  (repeat refine DW_seq ?_); refine DW_reg ?_; (repeat (first | (refine DR_q1 _ rfl rfl rfl ?_) | (refine DR_call1 _ (envC _ _ _ _ _) rfl rfl rfl rfl rfl ?_ (hc := by first | fail)) | (refine DR_e1 rfl (DO_alloc rfl rfl rfl) ?_) | (refine DR_e1 rfl (DO_box1 rfl rfl) ?_) | (refine DR_e1 rfl (DO_store1 rfl rfl) ?_) | (refine DR_g1 rfl rfl ?_) | (refine DR_skip1 rfl rfl rfl rfl ?_) | (refine DR_eqa1 _ rfl rfl rfl rfl ?_) | (refine DR_q2 _ rfl rfl rfl ?_))); (refine DR_nil ?_; refine DW_drop1 [0, 2, 3, 4, 11] ?_)
  (repeat refine DW_seq ?_); refine DW_cond (by simp only [evD, mk, look, reduceIte, Nat.reduceEqDiff]; exact rfl) ?_ ?_
  · intro hc
    have hil : 64 * i + 64 ≤ l.length := by
      have h1 := of_decide_eq_true hc
      rw [hdl] at h1
      omega
    refine DW_skip ?_
    refine DW_drop1 [0, 2, 3, 4] ?_
    refine DW_seq ?_
    refine DW_block ?_
    have hbl : (blk l i).length = 64 := blk_len hil
    refine DW_reg ?_; (refine DR_q1 _ rfl rfl rfl ?_); (refine DR_q1 _ rfl rfl rfl ?_)
    (refine DR_c _ rfl rfl rfl (by simp only [byteD, implies_true, setD, bslF, buildF, buildL, List.zip_cons_cons, List.zip_nil_right, List.zip_nil_left, pureD, rng0, rng1, rng2, rng3, rng4, rng5, rng6, rng7, rng8, List.getD_cons_zero, List.getD_cons_succ, Nat.reduceLeDiff, decide_true, decide_false, List.all_cons, List.all_nil, dqF, nilF, callQ, argsD, Op.operands, Call.operands, evD, cD, gip, upd, look, List.map, List.map_cons, List.map_nil, binF, binI, shI, binS, unF, wD, kLo, kHi, kMod, kBits, convF, loadF, fieldF, faddrF, indexF, iaddrF, lenF, lenD, sliceF, sliceD, cutL, bndF, sub, nc, aggT, aggB, scB, tnth, elems, L_B, L_mk, List.getElem?_cons_zero, List.getElem?_cons_succ, reduceIte, reduceCtorEq, Option.isSome, List.toList_toArray, Nat.reduceAdd, Nat.reduceSub, Nat.reduceMul, Nat.reduceEqDiff, Nat.reduceLT, Nat.reduceBEq, mkF, Bool.and_true, Bool.true_and, Bool.and_false, Bool.false_and, beq_self_eq_true, mkC, Int.reduceToNat, Int.toNat_natCast, Int.reduceAdd, Int.reduceSub, Int.reduceMul, Nat.zero_add, Nat.add_zero, Nat.mul_one, and_true, true_and, Option.getD_some, Option.getD_none, u32D, u8D, iD, bD, strD, u32_xor, u32_or, u32_and, u32_add, u32_not, u32_shr, u32_shl, u8_u32, u32_u8, hX, envOf, tyT, gtab]; exact rfl) (DQ_conv_im rfl rfl rfl ?_) ?_)
    · simp only [L_B, List.length_take]; omega
    (refine DR_e1 rfl (DO_callM1 (envC _ _ _ _ _) rfl rfl rfl (hc := by first | exact add_c (blk l i) hbl (runV l V0 i))) ?_)
    (refine DR_nil ?_; refine DW_drop1 [0, 2, 3, 4] ?_)
    refine DW_reg ?_; (repeat (first | (refine DR_q1 _ rfl rfl rfl ?_) | (refine DR_call1 _ (envC _ _ _ _ _) rfl rfl rfl rfl rfl ?_ (hc := by first | exact add_c (blk l i) hbl (runV l V0 i))) | (refine DR_e1 rfl (DO_alloc rfl rfl rfl) ?_) | (refine DR_e1 rfl (DO_box1 rfl rfl) ?_) | (refine DR_e1 rfl (DO_store1 rfl rfl) ?_) | (refine DR_g1 rfl rfl ?_) | (refine DR_skip1 rfl rfl rfl rfl ?_) | (refine DR_eqa1 _ rfl rfl rfl rfl ?_) | (refine DR_q2 _ rfl rfl rfl ?_))); refine DR_nil ?_
    refine ⟨_, m - 1, Weak.pick [0, 2, 3, 4], by omega, i + 1, by omega, ?_⟩
    refine pk1 ?_
    rw [show 64 * (i + 1) = 64 * i + 64 by omega, ← List.drop_drop]
    rfl
  · intro hc
    have hil : i = l.length / 64 := by
      have h1 := of_decide_eq_false hc
      rw [hdl] at h1
      omega
    subst hil
    refine DW_exit ?_
    refine DW_drop1 [0, 2, 3, 4] ?_
    (repeat refine DW_seq ?_); refine DW_reg ?_; (repeat (first | (refine DR_q1 _ rfl rfl rfl ?_) | (refine DR_call1 _ (envC _ _ _ _ _) rfl rfl rfl rfl rfl ?_ (hc := by first | exact fill_c _ l.length (by rw [hdl]; omega) (by omega))) | (refine DR_e1 rfl (DO_alloc rfl rfl rfl) ?_) | (refine DR_e1 rfl (DO_box1 rfl rfl) ?_) | (refine DR_e1 rfl (DO_store1 rfl rfl) ?_) | (refine DR_g1 rfl rfl ?_) | (refine DR_skip1 rfl rfl rfl rfl ?_) | (refine DR_eqa1 _ rfl rfl rfl rfl ?_) | (refine DR_q2 _ rfl rfl rfl ?_))); (refine DR_nil ?_; refine DW_drop1 [2, 3, 5] ?_)
    generalize hF : fillS (l.drop (64 * (l.length / 64))) l.length = F
    have hF64 : F.length % 64 = 0 := by rw [← hF]; exact fillS_mod _ _
    (repeat refine DW_seq ?_); refine DW_block ?_
    refine DW_loop (fun m st => ∃ j, j + m = F.length / 64 ∧ st = mk [(2, .ptr 0 0), (3, .ptr 1 0), (5, bytesD (F.drop (64 * j)))] [some (.one (.arr .u8 32 (fun _ => 0))), some (.one (.arr .u32 8 (vf (runV F (runV l V0 (l.length / 64)) j))))]) (F.length / 64) ⟨_, Weak.refl _ _, 0, by omega, ?_⟩ ?_
    · simp [bytesD, runV]
    clear m hi hc
    rintro m _ ⟨j, hj, rfl⟩
    have hdF : (F.drop (64 * j)).length = F.length - 64 * j := by simp
    (repeat refine DW_seq ?_); refine DW_reg ?_; (repeat (first | (refine DR_q1 _ rfl rfl rfl ?_) | (refine DR_call1 _ (envC _ _ _ _ _) rfl rfl rfl rfl rfl ?_ (hc := by first | exact fill_c _ l.length (by rw [hdl]; omega) (by omega))) | (refine DR_e1 rfl (DO_alloc rfl rfl rfl) ?_) | (refine DR_e1 rfl (DO_box1 rfl rfl) ?_) | (refine DR_e1 rfl (DO_store1 rfl rfl) ?_) | (refine DR_g1 rfl rfl ?_) | (refine DR_skip1 rfl rfl rfl rfl ?_) | (refine DR_eqa1 _ rfl rfl rfl rfl ?_) | (refine DR_q2 _ rfl rfl rfl ?_))); (refine DR_nil ?_; refine DW_drop1 [2, 3, 5, 23] ?_)
    (repeat refine DW_seq ?_); refine DW_cond (by simp only [evD, mk, look, reduceIte, Nat.reduceEqDiff]; exact rfl) ?_ ?_
    · intro hc
      have hjl : 64 * j + 64 ≤ F.length := by
        have h1 := of_decide_eq_true hc
        rw [hdF] at h1
        omega
      refine DW_skip ?_
      refine DW_drop1 [2, 3, 5] ?_
      refine DW_seq ?_
      refine DW_block ?_
      have hbl : (blk F j).length = 64 := blk_len hjl
      refine DW_reg ?_; (refine DR_q1 _ rfl rfl rfl ?_); (refine DR_q1 _ rfl rfl rfl ?_)
      (refine DR_e1 rfl (DO_callM1 (envC _ _ _ _ _) rfl rfl rfl (hc := by first | exact add_c (blk F j) hbl _)) ?_)
      (refine DR_nil ?_; refine DW_drop1 [2, 3, 5] ?_)
      refine DW_reg ?_; (repeat (first | (refine DR_q1 _ rfl rfl rfl ?_) | (refine DR_call1 _ (envC _ _ _ _ _) rfl rfl rfl rfl rfl ?_ (hc := by first | exact add_c (blk F j) hbl _)) | (refine DR_e1 rfl (DO_alloc rfl rfl rfl) ?_) | (refine DR_e1 rfl (DO_box1 rfl rfl) ?_) | (refine DR_e1 rfl (DO_store1 rfl rfl) ?_) | (refine DR_g1 rfl rfl ?_) | (refine DR_skip1 rfl rfl rfl rfl ?_) | (refine DR_eqa1 _ rfl rfl rfl rfl ?_) | (refine DR_q2 _ rfl rfl rfl ?_))); refine DR_nil ?_
      refine ⟨_, m - 1, Weak.pick [2, 3, 5], by omega, j + 1, by omega, ?_⟩
      refine pk1 ?_
      rw [show 64 * (j + 1) = 64 * j + 64 by omega, ← List.drop_drop]
      rfl
    · intro hc
      have hjl : j = F.length / 64 := by
        have h1 := of_decide_eq_false hc
        rw [hdF] at h1
        omega
      subst hjl
      refine DW_exit ?_
      refine DW_drop1 [2, 3] ?_
      (repeat refine DW_seq ?_); refine DW_reg ?_; (refine DR_e1 rfl (DO_callM1 (envC _ _ _ _ _) rfl rfl rfl (hc := by first | exact bytes_c _)) ?_); (repeat (first | (refine DR_q1 _ rfl rfl rfl ?_) | (refine DR_call1 _ (envC _ _ _ _ _) rfl rfl rfl rfl rfl ?_ (hc := by first | exact bytes_c _)) | (refine DR_e1 rfl (DO_alloc rfl rfl rfl) ?_) | (refine DR_e1 rfl (DO_box1 rfl rfl) ?_) | (refine DR_e1 rfl (DO_store1 rfl rfl) ?_) | (refine DR_g1 rfl rfl ?_) | (refine DR_skip1 rfl rfl rfl rfl ?_) | (refine DR_eqa1 _ rfl rfl rfl rfl ?_) | (refine DR_q2 _ rfl rfl rfl ?_))); (refine DR_nil ?_; refine DW_drop1 [2] ?_)
      refine DW_ret ?_; refine ⟨_, _, by simp only [outD, resD, outV, unlist, List.all, noTup, byteD, implies_true, setD, bslF, buildF, buildL, List.zip_cons_cons, List.zip_nil_right, List.zip_nil_left, pureD, rng0, rng1, rng2, rng3, rng4, rng5, rng6, rng7, rng8, List.getD_cons_zero, List.getD_cons_succ, Nat.reduceLeDiff, decide_true, decide_false, List.all_cons, List.all_nil, dqF, nilF, callQ, argsD, Op.operands, Call.operands, evD, cD, gip, upd, look, List.map, List.map_cons, List.map_nil, binF, binI, shI, binS, unF, wD, kLo, kHi, kMod, kBits, convF, loadF, fieldF, faddrF, indexF, iaddrF, lenF, lenD, sliceF, sliceD, cutL, bndF, sub, nc, aggT, aggB, scB, tnth, elems, L_B, L_mk, List.getElem?_cons_zero, List.getElem?_cons_succ, reduceIte, reduceCtorEq, Option.isSome, List.toList_toArray, Nat.reduceAdd, Nat.reduceSub, Nat.reduceMul, Nat.reduceEqDiff, Nat.reduceLT, Nat.reduceBEq, mkF, Bool.and_true, Bool.true_and, Bool.and_false, Bool.false_and, beq_self_eq_true, mkC, Int.reduceToNat, Int.toNat_natCast, Int.reduceAdd, Int.reduceSub, Int.reduceMul, Nat.zero_add, Nat.add_zero, Nat.mul_one, and_true, true_and, Option.getD_some, Option.getD_none, u32D, u8D, iD, bD, strD, u32_xor, u32_or, u32_and, u32_add, u32_not, u32_shr, u32_shl, u8_u32, u32_u8, envOf, tyT, gtab]; exact rfl, ?_, ?_⟩
      · trivial
      · rw [← hF]
        exact Fin_pure rfl
end Go.Proofs.YtpibemolnjmgoaaDoor
