/- A block is added. -/
import Derived.Test.YtpibemolnjmgoaaDoorSw
import Derived.Test.YtpibemolnjmgoaaDoorDu
namespace Go.Proofs.YtpibemolnjmgoaaDoor
set_option linter.unusedSimpArgs false
set_option linter.unusedVariables false
open Go.RowKit
def tt1 (l : List UInt8) (X : Nat → UInt32) (t : Nat) : UInt32 := X 7 + (ror (X 4) 6 ^^^ ror (X 4) 11 ^^^ ror (X 4) 25) + (X 4 &&& X 5 ^^^ ~~~ X 4 &&& X 6) + kT.getD t 0 + W l t
def tt2 (X : Nat → UInt32) : UInt32 := (ror (X 0) 2 ^^^ ror (X 0) 13 ^^^ ror (X 0) 22) + (X 0 &&& X 1 ^^^ X 0 &&& X 2 ^^^ X 1 &&& X 2)
def rnd (l : List UInt8) (X : Nat → UInt32) (t : Nat) : Nat → UInt32 := fun j => if j = 0 then tt1 l X t + tt2 X else if j = 4 then X 3 + tt1 l X t else if j < 8 then X (j - 1) else X j
def rnds (l : List UInt8) (V : Nat → UInt32) : Nat → Nat → UInt32
  | 0 => V
  | t + 1 => rnd l (rnds l V t) t
def addK (l : List UInt8) (V : Nat → UInt32) (k : Nat) : Nat → UInt32 := fun j => if j < k then V j + rnds l V 64 j else V j
def addS (l : List UInt8) (V : Nat → UInt32) : Nat → UInt32 := addK l V 8
def vf (V : Nat → UInt32) : Nat → Int := fun j => ((V j).toNat : Int)
def sumD (V : Nat → UInt32) : D := .arr .u32 8 (vf V)
theorem sumD_eq (V : Nat → UInt32) : sumD V = .arr .u32 8 (vf V) := rfl
def shF (X : Nat → UInt32) : Nat → Int := fun j => if 1 ≤ j ∧ j < 8 then ((X (j - 1)).toNat : Int) else ((X j).toNat : Int)
theorem vf_at (V : Nat → UInt32) (j : Nat) : vf V j = ((V j).toNat : Int) := rfl
theorem rnd_eq (l : List UInt8) (X : Nat → UInt32) (t : Nat) : updI (updI (shF X) 0 ((tt1 l X t + tt2 X).toNat : Int)) 4 ((X 3 + tt1 l X t).toNat : Int) = vf (rnd l X t) := by
  funext j
  unfold updI shF vf rnd
  by_cases h4 : j = 4
  · subst h4; simp
  · by_cases h0 : j = 0
    · subst h0; simp
    · by_cases h8 : j < 8
      · simp [h4, h0, h8, show 1 ≤ j by omega]
      · simp [h4, h0, h8]
theorem shc (X : Nat → UInt32) : (cpyI (vf X) 1 7 fun i => intOfD ([D.v (.int .u32 (X 0).toNat), D.v (.int .u32 (X 1).toNat), D.v (.int .u32 (X 2).toNat), D.v (.int .u32 (X 3).toNat), D.v (.int .u32 (X 4).toNat), D.v (.int .u32 (X 5).toNat), D.v (.int .u32 (X 6).toNat)].getD i D.dead)) = shF X := by
  funext j
  unfold cpyI shF
  by_cases h : 1 ≤ j ∧ j < 8
  · rw [if_pos (by omega), if_pos h]
    have : j = 1 ∨ j = 2 ∨ j = 3 ∨ j = 4 ∨ j = 5 ∨ j = 6 ∨ j = 7 := by omega
    rcases this with rfl | rfl | rfl | rfl | rfl | rfl | rfl <;> rfl
  · rw [if_neg (by omega), if_neg h]
    rfl
theorem addK_eq (l : List UInt8) (V : Nat → UInt32) (k : Nat) : updI (vf (addK l V k)) k ((V k + rnds l V 64 k).toNat : Int) = vf (addK l V (k + 1)) := by
  funext j
  unfold updI vf addK
  by_cases h : j = k
  · subst h; simp
  · by_cases h2 : j < k
    · simp [h, h2, show j < k + 1 by omega]
    · simp [h, h2, show ¬ j < k + 1 by omega]

set_option maxHeartbeats 4000000 in
theorem add_c (l : List UInt8) (hl : l.length = 64) (V : Nat → UInt32) : PM (envOf Tryd.prog) 30 (sumD V) [bytesD l] (sumD (addS l V)) (.tup .nil) := by
  have hX := and_true; refine PM_at Tryd.func30 rfl Tryd.ntmps30 Tryd.results30 rfl rfl (by simp only [argsL, Nat.reduceAdd, u32D, u8D, iD, bD, strD, u32_xor, u32_or, u32_and, u32_add, u32_not, u32_shr, u32_shl, u8_u32, u32_u8]; exact rfl) ?_; intro w0 A b0
  have hX := And.intro sumD_eq (And.intro wordsD_eq (And.intro vf_at (bytesD_eq)))
  (repeat refine DW_seq ?_); refine DW_reg ?_; (repeat (first | (refine DR_q1 _ rfl rfl rfl ?_) | (refine DR_call1 _ (envF _ _ _ _ _) rfl rfl rfl rfl rfl ?_ (hc := by first | exact turn_c _ _ (by omega) (by omega) | exact words_c _ hl)) | (refine DR_e1 rfl (DO_alloc rfl rfl rfl) ?_) | (refine DR_e1 rfl (DO_box1 rfl rfl) ?_) | (refine DR_e1 rfl (DO_store1 rfl rfl) ?_) | (refine DR_g1 rfl rfl ?_) | (refine DR_skip1 rfl rfl rfl rfl ?_) | (refine DR_eqa1 _ rfl rfl rfl rfl ?_) | (refine DR_q2 _ rfl rfl rfl ?_))); (refine DR_nil ?_; refine DW_drop1 [0, 4] ?_)
  (repeat refine DW_seq ?_); refine DW_reg ?_; (repeat (first | (refine DR_q1 _ rfl rfl rfl ?_) | (refine DR_call1 _ (envF _ _ _ _ _) rfl rfl rfl rfl rfl ?_ (hc := by first | exact turn_c _ _ (by omega) (by omega) | exact words_c _ hl)) | (refine DR_e1 rfl (DO_alloc rfl rfl rfl) ?_) | (refine DR_e1 rfl (DO_box1 rfl rfl) ?_) | (refine DR_e1 rfl (DO_store1 rfl rfl) ?_) | (refine DR_g1 rfl rfl ?_) | (refine DR_skip1 rfl rfl rfl rfl ?_) | (refine DR_eqa1 _ rfl rfl rfl rfl ?_) | (refine DR_q2 _ rfl rfl rfl ?_))); (refine DR_nil ?_; refine DW_drop1 [0, 4, 5] ?_)
  (repeat refine DW_seq ?_); refine DW_reg ?_; (repeat (first | (refine DR_q1 _ rfl rfl rfl ?_) | (refine DR_call1 _ (envF _ _ _ _ _) rfl rfl rfl rfl rfl ?_ (hc := by first | exact turn_c _ _ (by omega) (by omega) | exact words_c _ hl)) | (refine DR_e1 rfl (DO_alloc rfl rfl rfl) ?_) | (refine DR_e1 rfl (DO_box1 rfl rfl) ?_) | (refine DR_e1 rfl (DO_store1 rfl rfl) ?_) | (refine DR_g1 rfl rfl ?_) | (refine DR_skip1 rfl rfl rfl rfl ?_) | (refine DR_eqa1 _ rfl rfl rfl rfl ?_) | (refine DR_q2 _ rfl rfl rfl ?_))); (refine DR_nil ?_; refine DW_drop1 [0, 4, 5, 17] ?_)
  (repeat refine DW_seq ?_); refine DW_block ?_
  refine DW_loop (fun m st => ∃ t, t + m = 64 ∧ st = mk [(0, .ptr 0 0), (4, .ptr 1 0), (5, .ptr 2 0), (17, iD (t : Int))] [some (.one (.arr .u32 8 (vf V))), some (.one (.arr .u32 64 (fun j => ((W l j).toNat : Int)))), some (.one (.arr .u32 8 (vf (rnds l V t))))]) 64 ⟨_, Weak.refl _ _, 0, by omega, ?_⟩ ?_
  · simp [iD, rnds]
    trace_state
  rintro m _ ⟨t, ht, rfl⟩
  generalize hRX : rnds l V t = X
  (repeat refine DW_seq ?_); refine DW_reg ?_; (repeat (first | (refine DR_q1 _ rfl rfl rfl ?_) | (refine DR_call1 _ (envF _ _ _ _ _) rfl rfl rfl rfl rfl ?_ (hc := by first | exact turn_c _ _ (by omega) (by omega) | exact words_c _ hl)) | (refine DR_e1 rfl (DO_alloc rfl rfl rfl) ?_) | (refine DR_e1 rfl (DO_box1 rfl rfl) ?_) | (refine DR_e1 rfl (DO_store1 rfl rfl) ?_) | (refine DR_g1 rfl rfl ?_) | (refine DR_skip1 rfl rfl rfl rfl ?_) | (refine DR_eqa1 _ rfl rfl rfl rfl ?_) | (refine DR_q2 _ rfl rfl rfl ?_))); (refine DR_nil ?_; refine DW_drop1 [0, 4, 5, 17, 18] ?_)
  (repeat refine DW_seq ?_); refine DW_cond (by simp only [evD, mk, look, reduceIte, Nat.reduceEqDiff]; exact rfl) ?_ ?_
  · intro hc
    have htl : t < 64 := by have := of_decide_eq_true hc; omega
    refine DW_skip ?_
    refine DW_drop1 [0, 4, 5, 17] ?_
    refine DW_seq ?_
    refine DW_block ?_
    (repeat refine DW_seq ?_); refine DW_reg ?_; (repeat (first | (refine DR_q1 _ rfl rfl rfl ?_) | (refine DR_call1 _ (envF _ _ _ _ _) rfl rfl rfl rfl rfl ?_ (hc := by first | exact turn_c _ _ (by omega) (by omega) | exact words_c _ hl)) | (refine DR_e1 rfl (DO_alloc rfl rfl rfl) ?_) | (refine DR_e1 rfl (DO_box1 rfl rfl) ?_) | (refine DR_e1 rfl (DO_store1 rfl rfl) ?_) | (refine DR_g1 rfl rfl ?_) | (refine DR_skip1 rfl rfl rfl rfl ?_) | (refine DR_eqa1 _ rfl rfl rfl rfl ?_) | (refine DR_q2 _ rfl rfl rfl ?_))); (refine DR_nil ?_; refine DW_drop1 [0, 4, 5, 6, 17] ?_)
    (repeat refine DW_seq ?_); refine DW_reg ?_; (repeat (first | (refine DR_q1 _ rfl rfl rfl ?_) | (refine DR_call1 _ (envF _ _ _ _ _) rfl rfl rfl rfl rfl ?_ (hc := by first | exact turn_c _ _ (by omega) (by omega) | exact words_c _ hl)) | (refine DR_e1 rfl (DO_alloc rfl rfl rfl) ?_) | (refine DR_e1 rfl (DO_box1 rfl rfl) ?_) | (refine DR_e1 rfl (DO_store1 rfl rfl) ?_) | (refine DR_g1 rfl rfl ?_) | (refine DR_skip1 rfl rfl rfl rfl ?_) | (refine DR_eqa1 _ rfl rfl rfl rfl ?_) | (refine DR_q2 _ rfl rfl rfl ?_))); (refine DR_nil ?_; refine DW_drop1 [0, 4, 5, 6, 7, 17] ?_)
    (repeat refine DW_seq ?_); refine DW_drw 30 (by kernel_rfl) ?_; simp only [List.take, List.drop]; (repeat (first | (refine DRq_q1 _ rfl rfl rfl ?_) | (refine DRq_call1 _ (envF _ _ _ _ _) rfl rfl rfl rfl rfl ?_ (hc := by first | exact turn_c _ _ (by omega) (by omega) | exact words_c _ hl)) | (refine DRq_g1 rfl rfl ?_) | (refine DRq_skip1 rfl rfl rfl rfl ?_) | (refine DRq_eqa1 _ rfl rfl rfl rfl ?_) | (refine DRq_q2 _ rfl rfl rfl ?_))); refine DRq_nil ?_; (repeat (first | (refine DR_q1 _ rfl rfl rfl ?_) | (refine DR_call1 _ (envF _ _ _ _ _) rfl rfl rfl rfl rfl ?_ (hc := by first | exact turn_c _ _ (by omega) (by omega) | exact words_c _ hl)) | (refine DR_e1 rfl (DO_alloc rfl rfl rfl) ?_) | (refine DR_e1 rfl (DO_box1 rfl rfl) ?_) | (refine DR_e1 rfl (DO_store1 rfl rfl) ?_) | (refine DR_g1 rfl rfl ?_) | (refine DR_skip1 rfl rfl rfl rfl ?_) | (refine DR_eqa1 _ rfl rfl rfl rfl ?_) | (refine DR_q2 _ rfl rfl rfl ?_))); (refine DR_nil ?_; refine DW_drop1 [0, 4, 5, 8, 17] ?_)
    (repeat refine DW_seq ?_); refine DW_reg ?_; (repeat (first | (refine DR_q1 _ rfl rfl rfl ?_) | (refine DR_call1 _ (envF _ _ _ _ _) rfl rfl rfl rfl rfl ?_ (hc := by first | exact turn_c _ _ (by omega) (by omega) | exact words_c _ hl)) | (refine DR_e1 rfl (DO_alloc rfl rfl rfl) ?_) | (refine DR_e1 rfl (DO_box1 rfl rfl) ?_) | (refine DR_e1 rfl (DO_store1 rfl rfl) ?_) | (refine DR_g1 rfl rfl ?_) | (refine DR_skip1 rfl rfl rfl rfl ?_) | (refine DR_eqa1 _ rfl rfl rfl rfl ?_) | (refine DR_q2 _ rfl rfl rfl ?_))); (refine DR_nil ?_; refine DW_drop1 [0, 4, 5, 8, 9, 17] ?_)
    (repeat refine DW_seq ?_); refine DW_drw 24 (by kernel_rfl) ?_; simp only [List.take, List.drop]; (repeat (first | (refine DRq_q1 _ rfl rfl rfl ?_) | (refine DRq_call1 _ (envF _ _ _ _ _) rfl rfl rfl rfl rfl ?_ (hc := by first | exact turn_c _ _ (by omega) (by omega) | exact words_c _ hl)) | (refine DRq_g1 rfl rfl ?_) | (refine DRq_skip1 rfl rfl rfl rfl ?_) | (refine DRq_eqa1 _ rfl rfl rfl rfl ?_) | (refine DRq_q2 _ rfl rfl rfl ?_))); refine DRq_nil ?_; (repeat (first | (refine DR_q1 _ rfl rfl rfl ?_) | (refine DR_call1 _ (envF _ _ _ _ _) rfl rfl rfl rfl rfl ?_ (hc := by first | exact turn_c _ _ (by omega) (by omega) | exact words_c _ hl)) | (refine DR_e1 rfl (DO_alloc rfl rfl rfl) ?_) | (refine DR_e1 rfl (DO_box1 rfl rfl) ?_) | (refine DR_e1 rfl (DO_store1 rfl rfl) ?_) | (refine DR_g1 rfl rfl ?_) | (refine DR_skip1 rfl rfl rfl rfl ?_) | (refine DR_eqa1 _ rfl rfl rfl rfl ?_) | (refine DR_q2 _ rfl rfl rfl ?_))); (refine DR_nil ?_; refine DW_drop1 [0, 4, 5, 8, 10, 17] ?_)
    (repeat refine DW_seq ?_); refine DW_drw 2 (by kernel_rfl) ?_; simp only [List.take, List.drop]; (repeat (first | (refine DRq_q1 _ rfl rfl rfl ?_) | (refine DRq_call1 _ (envF _ _ _ _ _) rfl rfl rfl rfl rfl ?_ (hc := by first | exact turn_c _ _ (by omega) (by omega) | exact words_c _ hl)) | (refine DRq_g1 rfl rfl ?_) | (refine DRq_skip1 rfl rfl rfl rfl ?_) | (refine DRq_eqa1 _ rfl rfl rfl rfl ?_) | (refine DRq_q2 _ rfl rfl rfl ?_))); refine DRq_nil ?_
    (refine DR_e rfl (DO_copy (m := 7) rfl rfl rfl rfl rfl (by simp only [St.put, kilH, kil, kilB, List.map, List.set, List.length, List.nil_append, List.cons_append, List.append_nil, Option.map, storeF, setD, srcD, byteD, byteD, implies_true, setD, bslF, buildF, buildL, List.zip_cons_cons, List.zip_nil_right, List.zip_nil_left, pureD, rng0, rng1, rng2, rng3, rng4, rng5, rng6, rng7, rng8, List.getD_cons_zero, List.getD_cons_succ, Nat.reduceLeDiff, decide_true, decide_false, List.all_cons, List.all_nil, dqF, nilF, callQ, argsD, Op.operands, Call.operands, evD, cD, gip, upd, look, List.map, List.map_cons, List.map_nil, binF, binI, shI, binS, unF, wD, kLo, kHi, kMod, kBits, convF, loadF, fieldF, faddrF, indexF, iaddrF, lenF, lenD, sliceF, sliceD, cutL, bndF, sub, nc, aggT, aggB, scB, tnth, elems, L_B, L_mk, List.getElem?_cons_zero, List.getElem?_cons_succ, reduceIte, reduceCtorEq, Option.isSome, List.toList_toArray, Nat.reduceAdd, Nat.reduceSub, Nat.reduceMul, Nat.reduceEqDiff, Nat.reduceLT, Nat.reduceBEq, mkF, Bool.and_true, Bool.true_and, Bool.and_false, Bool.false_and, beq_self_eq_true, mkC, Int.reduceToNat, Int.toNat_natCast, Int.reduceAdd, Int.reduceSub, Int.reduceMul, Nat.zero_add, Nat.add_zero, Nat.mul_one, and_true, true_and, Option.getD_some, Option.getD_none, u32D, u8D, iD, bD, strD, u32_xor, u32_or, u32_and, u32_add, u32_not, u32_shr, u32_shl, u8_u32, u32_u8, hX, envOf, tyT, gtab]; exact rfl) (by simp only [St.put, kilH, kil, kilB, List.map, List.set, List.length, List.nil_append, List.cons_append, List.append_nil, Option.map, storeF, setD, srcD, byteD, byteD, implies_true, setD, bslF, buildF, buildL, List.zip_cons_cons, List.zip_nil_right, List.zip_nil_left, pureD, rng0, rng1, rng2, rng3, rng4, rng5, rng6, rng7, rng8, List.getD_cons_zero, List.getD_cons_succ, Nat.reduceLeDiff, decide_true, decide_false, List.all_cons, List.all_nil, dqF, nilF, callQ, argsD, Op.operands, Call.operands, evD, cD, gip, upd, look, List.map, List.map_cons, List.map_nil, binF, binI, shI, binS, unF, wD, kLo, kHi, kMod, kBits, convF, loadF, fieldF, faddrF, indexF, iaddrF, lenF, lenD, sliceF, sliceD, cutL, bndF, sub, nc, aggT, aggB, scB, tnth, elems, L_B, L_mk, List.getElem?_cons_zero, List.getElem?_cons_succ, reduceIte, reduceCtorEq, Option.isSome, List.toList_toArray, Nat.reduceAdd, Nat.reduceSub, Nat.reduceMul, Nat.reduceEqDiff, Nat.reduceLT, Nat.reduceBEq, mkF, Bool.and_true, Bool.true_and, Bool.and_false, Bool.false_and, beq_self_eq_true, mkC, Int.reduceToNat, Int.toNat_natCast, Int.reduceAdd, Int.reduceSub, Int.reduceMul, Nat.zero_add, Nat.add_zero, Nat.mul_one, and_true, true_and, Option.getD_some, Option.getD_none, u32D, u8D, iD, bD, strD, u32_xor, u32_or, u32_and, u32_add, u32_not, u32_shr, u32_shl, u8_u32, u32_u8, hX, envOf, tyT, gtab]; exact rfl) (by simp only [St.put, kilH, kil, kilB, List.map, List.set, List.length, List.nil_append, List.cons_append, List.append_nil, Option.map, storeF, setD, srcD, byteD, byteD, implies_true, setD, bslF, buildF, buildL, List.zip_cons_cons, List.zip_nil_right, List.zip_nil_left, pureD, rng0, rng1, rng2, rng3, rng4, rng5, rng6, rng7, rng8, List.getD_cons_zero, List.getD_cons_succ, Nat.reduceLeDiff, decide_true, decide_false, List.all_cons, List.all_nil, dqF, nilF, callQ, argsD, Op.operands, Call.operands, evD, cD, gip, upd, look, List.map, List.map_cons, List.map_nil, binF, binI, shI, binS, unF, wD, kLo, kHi, kMod, kBits, convF, loadF, fieldF, faddrF, indexF, iaddrF, lenF, lenD, sliceF, sliceD, cutL, bndF, sub, nc, aggT, aggB, scB, tnth, elems, L_B, L_mk, List.getElem?_cons_zero, List.getElem?_cons_succ, reduceIte, reduceCtorEq, Option.isSome, List.toList_toArray, Nat.reduceAdd, Nat.reduceSub, Nat.reduceMul, Nat.reduceEqDiff, Nat.reduceLT, Nat.reduceBEq, mkF, Bool.and_true, Bool.true_and, Bool.and_false, Bool.false_and, beq_self_eq_true, mkC, Int.reduceToNat, Int.toNat_natCast, Int.reduceAdd, Int.reduceSub, Int.reduceMul, Nat.zero_add, Nat.add_zero, Nat.mul_one, and_true, true_and, Option.getD_some, Option.getD_none, u32D, u8D, iD, bD, strD, u32_xor, u32_or, u32_and, u32_add, u32_not, u32_shr, u32_shl, u8_u32, u32_u8, hX, envOf, tyT, gtab]; exact rfl) ?_ ?_ ?_ ?_ ?_) (by simp only [St.put, kilH, kilB, kil, List.map_cons, List.map_nil, List.set, List.length, List.nil_append, List.cons_append, List.append_nil, Option.map, L_B, Nat.reduceAdd, Nat.zero_add, reduceIte, Nat.reduceEqDiff, hX]; exact rfl) ?_)
    · trivial
    · simp
    · intro d hd
      simp only [List.mem_cons, List.not_mem_nil, or_false] at hd
      rcases hd with rfl | rfl | rfl | rfl | rfl | rfl | rfl <;> rfl
    · omega
    · omega
    (refine DR_nil ?_; refine DW_drop1 [0, 4, 5, 8, 10, 17] ?_)
    rw [shc X]
    have hF4 : shF X 4 = ((X 3).toNat : Int) := rfl
    have hX := And.intro vf_at (And.intro hF4 (And.intro bytesD_eq (And.intro sumD_eq (wordsD_eq))))
    (repeat refine DW_seq ?_); refine DW_reg ?_; (repeat (first | (refine DR_q1 _ rfl rfl rfl ?_) | (refine DR_call1 _ (envF _ _ _ _ _) rfl rfl rfl rfl rfl ?_ (hc := by first | exact turn_c _ _ (by omega) (by omega) | exact words_c _ hl)) | (refine DR_e1 rfl (DO_alloc rfl rfl rfl) ?_) | (refine DR_e1 rfl (DO_box1 rfl rfl) ?_) | (refine DR_e1 rfl (DO_store1 rfl rfl) ?_) | (refine DR_g1 rfl rfl ?_) | (refine DR_skip1 rfl rfl rfl rfl ?_) | (refine DR_eqa1 _ rfl rfl rfl rfl ?_) | (refine DR_q2 _ rfl rfl rfl ?_))); (refine DR_nil ?_; refine DW_drop1 [0, 4, 5, 17] ?_)
    have hX := And.intro vf_at (And.intro bytesD_eq (And.intro sumD_eq (wordsD_eq)))
    refine DW_reg ?_; (repeat (first | (refine DR_q1 _ rfl rfl rfl ?_) | (refine DR_call1 _ (envF _ _ _ _ _) rfl rfl rfl rfl rfl ?_ (hc := by first | exact turn_c _ _ (by omega) (by omega) | exact words_c _ hl)) | (refine DR_e1 rfl (DO_alloc rfl rfl rfl) ?_) | (refine DR_e1 rfl (DO_box1 rfl rfl) ?_) | (refine DR_e1 rfl (DO_store1 rfl rfl) ?_) | (refine DR_g1 rfl rfl ?_) | (refine DR_skip1 rfl rfl rfl rfl ?_) | (refine DR_eqa1 _ rfl rfl rfl rfl ?_) | (refine DR_q2 _ rfl rfl rfl ?_))); refine DR_nil ?_
    refine ⟨_, m - 1, Weak.pick [0, 4, 5, 17], by omega, t + 1, by omega, ?_⟩
    refine pk1 ?_
    have hR := rnd_eq l X t
    rw [show rnds l V (t + 1) = rnd l X t by rw [← hRX]; rfl, ← hR]
    rfl
  · intro hc
    have htl : t = 64 := by have := of_decide_eq_false hc; omega
    subst htl
    subst hRX
    refine DW_exit ?_
    refine DW_drop1 [0, 5] ?_
    (repeat refine DW_seq ?_); refine DW_reg ?_; (repeat (first | (refine DR_q1 _ rfl rfl rfl ?_) | (refine DR_call1 _ (envF _ _ _ _ _) rfl rfl rfl rfl rfl ?_ (hc := by first | exact turn_c _ _ (by omega) (by omega) | exact words_c _ hl)) | (refine DR_e1 rfl (DO_alloc rfl rfl rfl) ?_) | (refine DR_e1 rfl (DO_box1 rfl rfl) ?_) | (refine DR_e1 rfl (DO_store1 rfl rfl) ?_) | (refine DR_g1 rfl rfl ?_) | (refine DR_skip1 rfl rfl rfl rfl ?_) | (refine DR_eqa1 _ rfl rfl rfl rfl ?_) | (refine DR_q2 _ rfl rfl rfl ?_))); (refine DR_nil ?_; refine DW_drop1 [0, 5, 91] ?_)
    (repeat refine DW_seq ?_); refine DW_block ?_
    refine DW_loop (fun m st => ∃ k, k + m = 8 ∧ st = mk [(0, .ptr 0 0), (5, .ptr 2 0), (91, iD (k : Int))] [some (.one (.arr .u32 8 (vf (addK l V k)))), some (.one (.arr .u32 64 (fun j => ((W l j).toNat : Int)))), some (.one (.arr .u32 8 (vf (rnds l V 64))))]) 8 ⟨_, Weak.refl _ _, 0, by omega, ?_⟩ ?_
    · have : addK l V 0 = V := by funext j; simp [addK]
      rw [this]
      rfl
    clear m ht hc
    rintro m _ ⟨k, hk, rfl⟩
    (repeat refine DW_seq ?_); refine DW_reg ?_; (repeat (first | (refine DR_q1 _ rfl rfl rfl ?_) | (refine DR_call1 _ (envF _ _ _ _ _) rfl rfl rfl rfl rfl ?_ (hc := by first | exact turn_c _ _ (by omega) (by omega) | exact words_c _ hl)) | (refine DR_e1 rfl (DO_alloc rfl rfl rfl) ?_) | (refine DR_e1 rfl (DO_box1 rfl rfl) ?_) | (refine DR_e1 rfl (DO_store1 rfl rfl) ?_) | (refine DR_g1 rfl rfl ?_) | (refine DR_skip1 rfl rfl rfl rfl ?_) | (refine DR_eqa1 _ rfl rfl rfl rfl ?_) | (refine DR_q2 _ rfl rfl rfl ?_))); (refine DR_nil ?_; refine DW_drop1 [0, 5, 91, 92] ?_)
    (repeat refine DW_seq ?_); refine DW_cond (by simp only [evD, mk, look, reduceIte, Nat.reduceEqDiff]; exact rfl) ?_ ?_
    · intro hc
      have hkl : k < 8 := by have := of_decide_eq_true hc; omega
      refine DW_skip ?_
      refine DW_drop1 [0, 5, 91] ?_
      refine DW_seq ?_
      refine DW_block ?_
      (repeat refine DW_seq ?_); refine DW_reg ?_; (repeat (first | (refine DR_q1 _ rfl rfl rfl ?_) | (refine DR_call1 _ (envF _ _ _ _ _) rfl rfl rfl rfl rfl ?_ (hc := by first | exact turn_c _ _ (by omega) (by omega) | exact words_c _ hl)) | (refine DR_e1 rfl (DO_alloc rfl rfl rfl) ?_) | (refine DR_e1 rfl (DO_box1 rfl rfl) ?_) | (refine DR_e1 rfl (DO_store1 rfl rfl) ?_) | (refine DR_g1 rfl rfl ?_) | (refine DR_skip1 rfl rfl rfl rfl ?_) | (refine DR_eqa1 _ rfl rfl rfl rfl ?_) | (refine DR_q2 _ rfl rfl rfl ?_))); (refine DR_nil ?_; refine DW_drop1 [0, 5, 11, 91] ?_)
      have hVk : addK l V k k = V k := by simp [addK]
      have hX := And.intro vf_at (And.intro hVk (And.intro bytesD_eq (And.intro sumD_eq (wordsD_eq))))
      (repeat refine DW_seq ?_); refine DW_drw 11 (by kernel_rfl) ?_; simp only [List.take, List.drop]; (repeat (first | (refine DRq_q1 _ rfl rfl rfl ?_) | (refine DRq_call1 _ (envF _ _ _ _ _) rfl rfl rfl rfl rfl ?_ (hc := by first | exact turn_c _ _ (by omega) (by omega) | exact words_c _ hl)) | (refine DRq_g1 rfl rfl ?_) | (refine DRq_skip1 rfl rfl rfl rfl ?_) | (refine DRq_eqa1 _ rfl rfl rfl rfl ?_) | (refine DRq_q2 _ rfl rfl rfl ?_))); refine DRq_nil ?_; (repeat (first | (refine DR_q1 _ rfl rfl rfl ?_) | (refine DR_call1 _ (envF _ _ _ _ _) rfl rfl rfl rfl rfl ?_ (hc := by first | exact turn_c _ _ (by omega) (by omega) | exact words_c _ hl)) | (refine DR_e1 rfl (DO_alloc rfl rfl rfl) ?_) | (refine DR_e1 rfl (DO_box1 rfl rfl) ?_) | (refine DR_e1 rfl (DO_store1 rfl rfl) ?_) | (refine DR_g1 rfl rfl ?_) | (refine DR_skip1 rfl rfl rfl rfl ?_) | (refine DR_eqa1 _ rfl rfl rfl rfl ?_) | (refine DR_q2 _ rfl rfl rfl ?_))); (refine DR_nil ?_; refine DW_drop1 [0, 5, 91] ?_)
      have hX := And.intro vf_at (And.intro bytesD_eq (And.intro sumD_eq (wordsD_eq)))
      refine DW_reg ?_; (repeat (first | (refine DR_q1 _ rfl rfl rfl ?_) | (refine DR_call1 _ (envF _ _ _ _ _) rfl rfl rfl rfl rfl ?_ (hc := by first | exact turn_c _ _ (by omega) (by omega) | exact words_c _ hl)) | (refine DR_e1 rfl (DO_alloc rfl rfl rfl) ?_) | (refine DR_e1 rfl (DO_box1 rfl rfl) ?_) | (refine DR_e1 rfl (DO_store1 rfl rfl) ?_) | (refine DR_g1 rfl rfl ?_) | (refine DR_skip1 rfl rfl rfl rfl ?_) | (refine DR_eqa1 _ rfl rfl rfl rfl ?_) | (refine DR_q2 _ rfl rfl rfl ?_))); refine DR_nil ?_
      refine ⟨_, m - 1, Weak.pick [0, 5, 91], by omega, k + 1, by omega, ?_⟩
      refine pk1 ?_
      rw [← addK_eq]
      rfl
    · intro hc
      have hkl : k = 8 := by have := of_decide_eq_false hc; omega
      subst hkl
      refine DW_exit ?_
      exact ⟨_, _, rfl, ⟨trivial, rfl⟩, rfl, rfl, LeP.refl rfl⟩
end Go.Proofs.YtpibemolnjmgoaaDoor
