/- The sum of bytes: the document. The two sums are one: plain. Middle of a sum. Two sums, computed. -/
import Derived.Test.YtedioenakmgdiaaDoorBPE
import Derived.Test.YtedioenakmgdiaaDoorBPD
namespace Go.Proofs.YtedioenakmgdiaaDoor
set_option linter.unusedSimpArgs false
set_option linter.unusedVariables false
set_option maxRecDepth 10000
open Go.RowKit
def sumR (l : List UInt8) : List UInt8 := sumB (runV (fillS l l.length) V0 ((fillS l l.length).length / 64))
theorem hV0 : (updI (updI (updI (updI (updI (updI (updI (updI (fun _ => 0) 0 1779033703) 1 3144134277) 2 1013904242) 3 2773480762) 4 1359893119) 5 2600822924) 6 528734635) 7 1541459225) = vf V0 := by
  funext j
  by_cases h : j < 8
  · have : j = 0 ∨ j = 1 ∨ j = 2 ∨ j = 3 ∨ j = 4 ∨ j = 5 ∨ j = 6 ∨ j = 7 := by omega
    rcases this with rfl | rfl | rfl | rfl | rfl | rfl | rfl | rfl <;> rfl
  · have e : V0 j = 0 := by
      unfold V0
      rw [List.getD_eq_getElem?_getD, List.getElem?_eq_none (by simp; omega)]
      rfl
    unfold updI vf
    rw [e, if_neg (by omega), if_neg (by omega), if_neg (by omega), if_neg (by omega), if_neg (by omega), if_neg (by omega), if_neg (by omega), if_neg (by omega)]
    rfl
theorem rnd_lit (l : List UInt8) (X : Nat → UInt32) (t : Nat) : ∀ i, i < 8 → (updI (updI (updI (updI (updI (updI (updI (updI (fun _ => 0) 0 ((tt1 l X t + tt2 X).toNat : Int)) 1 ((X 0).toNat : Int)) 2 ((X 1).toNat : Int)) 3 ((X 2).toNat : Int)) 4 ((X 3 + tt1 l X t).toNat : Int)) 5 ((X 4).toNat : Int)) 6 ((X 5).toNat : Int)) 7 ((X 6).toNat : Int)) i = vf (rnd l X t) i := by
  intro j h
  have : j = 0 ∨ j = 1 ∨ j = 2 ∨ j = 3 ∨ j = 4 ∨ j = 5 ∨ j = 6 ∨ j = 7 := by omega
  rcases this with rfl | rfl | rfl | rfl | rfl | rfl | rfl | rfl <;> rfl
def hg (V : Nat → UInt32) (k : Nat) : Nat → Int := fun j => if j < k then ((hb V j).toNat : Int) else 0
theorem hg_succ (V : Nat → UInt32) (k : Nat) : updI (hg V k) k ((hb V k).toNat : Int) = hg V (k + 1) := by
  funext j
  unfold updI hg
  by_cases h : j = k
  · subst h; simp
  · by_cases h2 : j < k
    · rw [if_neg h, if_pos h2, if_pos (by omega)]
    · rw [if_neg h, if_neg h2, if_neg (by omega)]

set_option maxHeartbeats 8000000 in
theorem refsum_c (l : List UInt8) (hl : l.length ≤ 1048576) : PC (envOf Tryd.prog) 25 [strD l] (hashD (sumR l)) := by
  have hX := and_true; refine PC_at Tryd.func25 rfl Tryd.ntmps25 Tryd.results25 rfl rfl (by simp only [argsL, Nat.reduceAdd, u32D, u8D, iD, bD, strD, u32_xor, u32_or, u32_and, u32_add, u32_not, u32_shr, u32_shl, u8_u32, u32_u8]; exact rfl) ?_; intro w0 A
  have hX := And.intro sumD_eq (And.intro vf_at (And.intro wordsD_eq (And.intro bytesD_eq (ktD_eq))))
  (repeat refine DW_seq ?_); refine DW_reg ?_; (repeat (first | (refine DR_q1 _ rfl rfl rfl ?_) | (refine DR_call1 _ (envC _ _ _ _ _) rfl rfl rfl rfl rfl ?_ (hc := by first | fail)) | (refine DR_e1 rfl (DO_alloc rfl rfl rfl) ?_) | (refine DR_e1 rfl (DO_box1 rfl rfl) ?_) | (refine DR_e1 rfl (DO_store1 rfl rfl) ?_) | (refine DR_g1 rfl rfl ?_) | (refine DR_skip1 rfl rfl rfl rfl ?_) | (refine DR_eqa1 _ rfl rfl rfl rfl ?_) | (refine DR_q2 _ rfl rfl rfl ?_))); (refine DR_nil ?_; refine DW_drop1 [0, 2] ?_)
  (repeat refine DW_seq ?_); refine DW_reg ?_
  refine DR_q _ rfl rfl rfl (by simp only [byteD, implies_true, setD, bslF, buildF, buildL, List.zip_cons_cons, List.zip_nil_right, List.zip_nil_left, pureD, rng0, rng1, rng2, rng3, rng4, rng5, rng6, rng7, rng8, List.getD_cons_zero, List.getD_cons_succ, Nat.reduceLeDiff, decide_true, decide_false, List.all_cons, List.all_nil, dqF, nilF, callQ, argsD, Op.operands, Call.operands, evD, cD, gip, upd, look, List.map, List.map_cons, List.map_nil, binF, binI, shI, binS, unF, wD, kLo, kHi, kMod, kBits, convF, loadF, fieldF, faddrF, indexF, iaddrF, lenF, lenD, sliceF, sliceF3, minF, sliceD, cutL, bndF, sub, nc, aggT, aggB, scB, tnth, elems, L_B, L_mk, List.getElem?_cons_zero, List.getElem?_cons_succ, reduceIte, reduceCtorEq, Option.isSome, List.toList_toArray, Nat.reduceAdd, Nat.reduceSub, Nat.reduceMul, Nat.reduceEqDiff, Nat.reduceLT, Nat.reduceBEq, mkF, mkG, Bool.and_true, Bool.true_and, Bool.and_false, Bool.false_and, beq_self_eq_true, mkC, Int.reduceToNat, Int.toNat_natCast, Int.reduceAdd, Int.reduceSub, Int.reduceMul, Nat.zero_add, Nat.add_zero, Nat.mul_one, and_true, true_and, Option.getD_some, Option.getD_none, u32D, u8D, iD, bD, strD, u32_xor, u32_or, u32_and, u32_add, u32_not, u32_shr, u32_shl, u8_u32, u32_u8, hX, envOf, tyT, gtab]; exact rfl) ?_ ?_
  · exact ⟨by simp, rfl⟩
  (repeat (first | (refine DR_q1 _ rfl rfl rfl ?_) | (refine DR_call1 _ (envC _ _ _ _ _) rfl rfl rfl rfl rfl ?_ (hc := by first | fail)) | (refine DR_e1 rfl (DO_alloc rfl rfl rfl) ?_) | (refine DR_e1 rfl (DO_box1 rfl rfl) ?_) | (refine DR_e1 rfl (DO_store1 rfl rfl) ?_) | (refine DR_g1 rfl rfl ?_) | (refine DR_skip1 rfl rfl rfl rfl ?_) | (refine DR_eqa1 _ rfl rfl rfl rfl ?_) | (refine DR_q2 _ rfl rfl rfl ?_))); (refine DR_nil ?_; refine DW_drop1 [0, 2, 3] ?_)
  rw [hV0]
  (repeat refine DW_seq ?_); refine DW_reg ?_; (repeat (first | (refine DR_q1 _ rfl rfl rfl ?_) | (refine DR_call1 _ (envC _ _ _ _ _) rfl rfl rfl rfl rfl ?_ (hc := by first | exact filled_c l hl | exact constants_c)) | (refine DR_e1 rfl (DO_alloc rfl rfl rfl) ?_) | (refine DR_e1 rfl (DO_box1 rfl rfl) ?_) | (refine DR_e1 rfl (DO_store1 rfl rfl) ?_) | (refine DR_g1 rfl rfl ?_) | (refine DR_skip1 rfl rfl rfl rfl ?_) | (refine DR_eqa1 _ rfl rfl rfl rfl ?_) | (refine DR_q2 _ rfl rfl rfl ?_))); (refine DR_nil ?_; refine DW_drop1 [2, 3, 4] ?_)
  (repeat refine DW_seq ?_); refine DW_reg ?_; (repeat (first | (refine DR_q1 _ rfl rfl rfl ?_) | (refine DR_call1 _ (envC _ _ _ _ _) rfl rfl rfl rfl rfl ?_ (hc := by first | exact filled_c l hl | exact constants_c)) | (refine DR_e1 rfl (DO_alloc rfl rfl rfl) ?_) | (refine DR_e1 rfl (DO_box1 rfl rfl) ?_) | (refine DR_e1 rfl (DO_store1 rfl rfl) ?_) | (refine DR_g1 rfl rfl ?_) | (refine DR_skip1 rfl rfl rfl rfl ?_) | (refine DR_eqa1 _ rfl rfl rfl rfl ?_) | (refine DR_q2 _ rfl rfl rfl ?_))); (refine DR_nil ?_; refine DW_drop1 [2, 3, 4, 5] ?_)
  generalize hF : fillS l l.length = F
  have hF64 : F.length % 64 = 0 := by rw [← hF]; exact fillS_mod _ _
  (repeat refine DW_seq ?_); refine DW_block ?_
  refine DW_loop (fun m st => ∃ j, j + m = F.length / 64 ∧ st = mk [(2, .ptr 0 0), (3, .ptr 1 0), (4, bytesD (F.drop (64 * j))), (5, .ptr 2 0)] [some (.one (.arr .u8 32 (fun _ => 0))), some (.one (.arr .u32 8 (vf (runV F V0 j)))), some (.one ktD)]) (F.length / 64) ⟨_, Weak.refl _ _, 0, by omega, ?_⟩ ?_
  · simp [bytesD, runV, ktD]
  rintro m _ ⟨j, hj, rfl⟩
  have hdF : (F.drop (64 * j)).length = F.length - 64 * j := by simp
  (repeat refine DW_seq ?_); refine DW_reg ?_; (repeat (first | (refine DR_q1 _ rfl rfl rfl ?_) | (refine DR_call1 _ (envC _ _ _ _ _) rfl rfl rfl rfl rfl ?_ (hc := by first | exact filled_c l hl | exact constants_c)) | (refine DR_e1 rfl (DO_alloc rfl rfl rfl) ?_) | (refine DR_e1 rfl (DO_box1 rfl rfl) ?_) | (refine DR_e1 rfl (DO_store1 rfl rfl) ?_) | (refine DR_g1 rfl rfl ?_) | (refine DR_skip1 rfl rfl rfl rfl ?_) | (refine DR_eqa1 _ rfl rfl rfl rfl ?_) | (refine DR_q2 _ rfl rfl rfl ?_))); (refine DR_nil ?_; refine DW_drop1 [2, 3, 4, 5, 20] ?_)
  (repeat refine DW_seq ?_); refine DW_cond (by simp only [evD, mk, look, reduceIte, Nat.reduceEqDiff]; exact rfl) ?_ ?_
  · intro hc
    have hjl : 64 * j + 64 ≤ F.length := by
      have h1 := of_decide_eq_true hc
      rw [hdF] at h1
      omega
    refine DW_skip ?_
    refine DW_drop1 [2, 3, 4, 5] ?_
    refine DW_block ?_
    have hbl : (blk F j).length = 64 := blk_len hjl
    (repeat refine DW_seq ?_); refine DW_reg ?_; (repeat (first | (refine DR_q1 _ rfl rfl rfl ?_) | (refine DR_call1 _ (envC _ _ _ _ _) rfl rfl rfl rfl rfl ?_ (hc := by first | exact refwords_c (blk F j) hbl)) | (refine DR_e1 rfl (DO_alloc rfl rfl rfl) ?_) | (refine DR_e1 rfl (DO_box1 rfl rfl) ?_) | (refine DR_e1 rfl (DO_store1 rfl rfl) ?_) | (refine DR_g1 rfl rfl ?_) | (refine DR_skip1 rfl rfl rfl rfl ?_) | (refine DR_eqa1 _ rfl rfl rfl rfl ?_) | (refine DR_q2 _ rfl rfl rfl ?_))); (refine DR_nil ?_; refine DW_drop1 [2, 3, 4, 5, 6] ?_)
    (repeat refine DW_seq ?_); refine DW_reg ?_; (repeat (first | (refine DR_q1 _ rfl rfl rfl ?_) | (refine DR_call1 _ (envC _ _ _ _ _) rfl rfl rfl rfl rfl ?_ (hc := by first | exact refwords_c (blk F j) hbl)) | (refine DR_e1 rfl (DO_alloc rfl rfl rfl) ?_) | (refine DR_e1 rfl (DO_box1 rfl rfl) ?_) | (refine DR_e1 rfl (DO_store1 rfl rfl) ?_) | (refine DR_g1 rfl rfl ?_) | (refine DR_skip1 rfl rfl rfl rfl ?_) | (refine DR_eqa1 _ rfl rfl rfl rfl ?_) | (refine DR_q2 _ rfl rfl rfl ?_))); (refine DR_nil ?_; refine DW_drop1 [2, 3, 4, 5, 6] ?_)
    (repeat refine DW_seq ?_); refine DW_reg ?_; (repeat (first | (refine DR_q1 _ rfl rfl rfl ?_) | (refine DR_call1 _ (envC _ _ _ _ _) rfl rfl rfl rfl rfl ?_ (hc := by first | exact refwords_c (blk F j) hbl)) | (refine DR_e1 rfl (DO_alloc rfl rfl rfl) ?_) | (refine DR_e1 rfl (DO_box1 rfl rfl) ?_) | (refine DR_e1 rfl (DO_store1 rfl rfl) ?_) | (refine DR_g1 rfl rfl ?_) | (refine DR_skip1 rfl rfl rfl rfl ?_) | (refine DR_eqa1 _ rfl rfl rfl rfl ?_) | (refine DR_q2 _ rfl rfl rfl ?_))); (refine DR_nil ?_; refine DW_drop1 [2, 3, 4, 5, 6, 7] ?_)
    (repeat refine DW_seq ?_); refine DW_reg ?_; (repeat (first | (refine DR_q1 _ rfl rfl rfl ?_) | (refine DR_call1 _ (envC _ _ _ _ _) rfl rfl rfl rfl rfl ?_ (hc := by first | exact refwords_c (blk F j) hbl)) | (refine DR_e1 rfl (DO_alloc rfl rfl rfl) ?_) | (refine DR_e1 rfl (DO_box1 rfl rfl) ?_) | (refine DR_e1 rfl (DO_store1 rfl rfl) ?_) | (refine DR_g1 rfl rfl ?_) | (refine DR_skip1 rfl rfl rfl rfl ?_) | (refine DR_eqa1 _ rfl rfl rfl rfl ?_) | (refine DR_q2 _ rfl rfl rfl ?_))); (refine DR_nil ?_; refine DW_drop1 [2, 3, 4, 5, 6, 7, 8] ?_)
    generalize hV : runV F V0 j = V
    (repeat refine DW_seq ?_); refine DW_block ?_
    refine DW_loop (fun m' st => ∃ t, t + m' = 64 ∧ st = mk [(2, .ptr 0 0), (3, .ptr 1 0), (4, bytesD ((F.drop (64 * j)).drop 64)), (5, .ptr 2 0), (6, .ptr 3 0), (7, .ptr 4 0), (8, iD (t : Int))] [some (.one (.arr .u8 32 (fun _ => 0))), some (.one (.arr .u32 8 (vf V))), some (.one ktD), some (.one (wordsD (blk F j))), some (.one (.arr .u32 8 (vf (rnds (blk F j) V t))))]) 64 ⟨_, Weak.refl _ _, 0, by omega, ?_⟩ ?_
    · rfl
    rintro m' _ ⟨t, ht, rfl⟩
    generalize hRX : rnds (blk F j) V t = X
    (repeat refine DW_seq ?_); refine DW_reg ?_; (repeat (first | (refine DR_q1 _ rfl rfl rfl ?_) | (refine DR_call1 _ (envC _ _ _ _ _) rfl rfl rfl rfl rfl ?_ (hc := by first | exact refwords_c (blk F j) hbl)) | (refine DR_e1 rfl (DO_alloc rfl rfl rfl) ?_) | (refine DR_e1 rfl (DO_box1 rfl rfl) ?_) | (refine DR_e1 rfl (DO_store1 rfl rfl) ?_) | (refine DR_g1 rfl rfl ?_) | (refine DR_skip1 rfl rfl rfl rfl ?_) | (refine DR_eqa1 _ rfl rfl rfl rfl ?_) | (refine DR_q2 _ rfl rfl rfl ?_))); (refine DR_nil ?_; refine DW_drop1 [2, 3, 4, 5, 6, 7, 8, 28] ?_)
    (repeat refine DW_seq ?_); refine DW_cond (by simp only [evD, mk, look, reduceIte, Nat.reduceEqDiff]; exact rfl) ?_ ?_
    · intro hc2
      have htl : t < 64 := by have := of_decide_eq_true hc2; omega
      refine DW_skip ?_
      refine DW_drop1 [2, 3, 4, 5, 6, 7, 8] ?_
      refine DW_seq ?_
      refine DW_block ?_
      (repeat refine DW_seq ?_); refine DW_drw 35 (by kernel_rfl) ?_; simp only [List.take, List.drop]; (repeat (first | (refine DRq_q1 _ rfl rfl rfl ?_) | (refine DRq_call1 _ (envC _ _ _ _ _) rfl rfl rfl rfl rfl ?_ (hc := by first | exact turned_c _ _ (by omega) (by omega))) | (refine DRq_g1 rfl rfl ?_) | (refine DRq_skip1 rfl rfl rfl rfl ?_) | (refine DRq_eqa1 _ rfl rfl rfl rfl ?_) | (refine DRq_q2 _ rfl rfl rfl ?_))); refine DRq_nil ?_; (repeat (first | (refine DR_q1 _ rfl rfl rfl ?_) | (refine DR_call1 _ (envC _ _ _ _ _) rfl rfl rfl rfl rfl ?_ (hc := by first | exact turned_c _ _ (by omega) (by omega))) | (refine DR_e1 rfl (DO_alloc rfl rfl rfl) ?_) | (refine DR_e1 rfl (DO_box1 rfl rfl) ?_) | (refine DR_e1 rfl (DO_store1 rfl rfl) ?_) | (refine DR_g1 rfl rfl ?_) | (refine DR_skip1 rfl rfl rfl rfl ?_) | (refine DR_eqa1 _ rfl rfl rfl rfl ?_) | (refine DR_q2 _ rfl rfl rfl ?_))); (refine DR_nil ?_; refine DW_drop1 [2, 3, 4, 5, 6, 7, 8, 9] ?_)
      (repeat refine DW_seq ?_); refine DW_drw 29 (by kernel_rfl) ?_; simp only [List.take, List.drop]; (repeat (first | (refine DRq_q1 _ rfl rfl rfl ?_) | (refine DRq_call1 _ (envC _ _ _ _ _) rfl rfl rfl rfl rfl ?_ (hc := by first | exact turned_c _ _ (by omega) (by omega))) | (refine DRq_g1 rfl rfl ?_) | (refine DRq_skip1 rfl rfl rfl rfl ?_) | (refine DRq_eqa1 _ rfl rfl rfl rfl ?_) | (refine DRq_q2 _ rfl rfl rfl ?_))); refine DRq_nil ?_; (repeat (first | (refine DR_q1 _ rfl rfl rfl ?_) | (refine DR_call1 _ (envC _ _ _ _ _) rfl rfl rfl rfl rfl ?_ (hc := by first | exact turned_c _ _ (by omega) (by omega))) | (refine DR_e1 rfl (DO_alloc rfl rfl rfl) ?_) | (refine DR_e1 rfl (DO_box1 rfl rfl) ?_) | (refine DR_e1 rfl (DO_store1 rfl rfl) ?_) | (refine DR_g1 rfl rfl ?_) | (refine DR_skip1 rfl rfl rfl rfl ?_) | (refine DR_eqa1 _ rfl rfl rfl rfl ?_) | (refine DR_q2 _ rfl rfl rfl ?_))); (refine DR_nil ?_; refine DW_drop1 [2, 3, 4, 5, 6, 7, 8, 9, 10] ?_)
      (repeat refine DW_seq ?_); refine DW_reg ?_; (repeat (first | (refine DR_q1 _ rfl rfl rfl ?_) | (refine DR_call1 _ (envC _ _ _ _ _) rfl rfl rfl rfl rfl ?_ (hc := by first | exact turned_c _ _ (by omega) (by omega))) | (refine DR_e1 rfl (DO_alloc rfl rfl rfl) ?_) | (refine DR_e1 rfl (DO_box1 rfl rfl) ?_) | (refine DR_e1 rfl (DO_store1 rfl rfl) ?_) | (refine DR_g1 rfl rfl ?_) | (refine DR_skip1 rfl rfl rfl rfl ?_) | (refine DR_eqa1 _ rfl rfl rfl rfl ?_) | (refine DR_q2 _ rfl rfl rfl ?_))); (refine DR_nil ?_; refine DW_drop1 [2, 3, 4, 5, 6, 7, 8] ?_)
      refine DW_reg ?_; (repeat (first | (refine DR_q1 _ rfl rfl rfl ?_) | (refine DR_call1 _ (envC _ _ _ _ _) rfl rfl rfl rfl rfl ?_ (hc := by first | exact turned_c _ _ (by omega) (by omega))) | (refine DR_e1 rfl (DO_alloc rfl rfl rfl) ?_) | (refine DR_e1 rfl (DO_box1 rfl rfl) ?_) | (refine DR_e1 rfl (DO_store1 rfl rfl) ?_) | (refine DR_g1 rfl rfl ?_) | (refine DR_skip1 rfl rfl rfl rfl ?_) | (refine DR_eqa1 _ rfl rfl rfl rfl ?_) | (refine DR_q2 _ rfl rfl rfl ?_))); refine DR_nil ?_
      refine ⟨_, m' - 1, (Weak.pick [2, 3, 4, 5, 6, 7, 8]).trans (Weak.arr 4 rfl (rnd_lit (blk F j) X t)), by omega, t + 1, by omega, ?_⟩
      refine pk1 ?_
      subst hRX
      rfl
    · intro hc2
      have htl : t = 64 := by have := of_decide_eq_false hc2; omega
      subst htl
      subst hRX
      refine DW_exit ?_
      refine DW_drop1 [2, 3, 4, 5, 7] ?_
      (repeat refine DW_seq ?_); refine DW_reg ?_; (repeat (first | (refine DR_q1 _ rfl rfl rfl ?_) | (refine DR_call1 _ (envC _ _ _ _ _) rfl rfl rfl rfl rfl ?_ (hc := by first | exact turned_c _ _ (by omega) (by omega))) | (refine DR_e1 rfl (DO_alloc rfl rfl rfl) ?_) | (refine DR_e1 rfl (DO_box1 rfl rfl) ?_) | (refine DR_e1 rfl (DO_store1 rfl rfl) ?_) | (refine DR_g1 rfl rfl ?_) | (refine DR_skip1 rfl rfl rfl rfl ?_) | (refine DR_eqa1 _ rfl rfl rfl rfl ?_) | (refine DR_q2 _ rfl rfl rfl ?_))); (refine DR_nil ?_; refine DW_drop1 [2, 3, 4, 5, 7, 11] ?_)
      (repeat refine DW_seq ?_); refine DW_block ?_
      refine DW_loop (fun m' st => ∃ k, k + m' = 8 ∧ st = mk [(2, .ptr 0 0), (3, .ptr 1 0), (4, bytesD ((F.drop (64 * j)).drop 64)), (5, .ptr 2 0), (7, .ptr 4 0), (11, iD (k : Int))] [some (.one (.arr .u8 32 (fun _ => 0))), some (.one (.arr .u32 8 (vf (addK (blk F j) V k)))), some (.one ktD), some (.one (wordsD (blk F j))), some (.one (.arr .u32 8 (vf (rnds (blk F j) V 64))))]) 8 ⟨_, Weak.refl _ _, 0, by omega, ?_⟩ ?_
      · have : addK (blk F j) V 0 = V := by funext j; simp [addK]
        rw [this]
        rfl
      clear m' ht hc2
      rintro m' _ ⟨k, hk, rfl⟩
      (repeat refine DW_seq ?_); refine DW_reg ?_; (repeat (first | (refine DR_q1 _ rfl rfl rfl ?_) | (refine DR_call1 _ (envC _ _ _ _ _) rfl rfl rfl rfl rfl ?_ (hc := by first | exact turned_c _ _ (by omega) (by omega))) | (refine DR_e1 rfl (DO_alloc rfl rfl rfl) ?_) | (refine DR_e1 rfl (DO_box1 rfl rfl) ?_) | (refine DR_e1 rfl (DO_store1 rfl rfl) ?_) | (refine DR_g1 rfl rfl ?_) | (refine DR_skip1 rfl rfl rfl rfl ?_) | (refine DR_eqa1 _ rfl rfl rfl rfl ?_) | (refine DR_q2 _ rfl rfl rfl ?_))); (refine DR_nil ?_; refine DW_drop1 [2, 3, 4, 5, 7, 11, 116] ?_)
      (repeat refine DW_seq ?_); refine DW_cond (by simp only [evD, mk, look, reduceIte, Nat.reduceEqDiff]; exact rfl) ?_ ?_
      · intro hc2
        have hkl : k < 8 := by have := of_decide_eq_true hc2; omega
        refine DW_skip ?_
        refine DW_drop1 [2, 3, 4, 5, 7, 11] ?_
        refine DW_seq ?_
        refine DW_block ?_
        have hVk : addK (blk F j) V k k = V k := by simp [addK]
        have hX := And.intro sumD_eq (And.intro vf_at (And.intro wordsD_eq (And.intro hVk (And.intro bytesD_eq (ktD_eq)))))
        (repeat refine DW_seq ?_); refine DW_drw 8 (by kernel_rfl) ?_; simp only [List.take, List.drop]; (repeat (first | (refine DRq_q1 _ rfl rfl rfl ?_) | (refine DRq_call1 _ (envC _ _ _ _ _) rfl rfl rfl rfl rfl ?_ (hc := by first | exact turned_c _ _ (by omega) (by omega))) | (refine DRq_g1 rfl rfl ?_) | (refine DRq_skip1 rfl rfl rfl rfl ?_) | (refine DRq_eqa1 _ rfl rfl rfl rfl ?_) | (refine DRq_q2 _ rfl rfl rfl ?_))); refine DRq_nil ?_; (repeat (first | (refine DR_q1 _ rfl rfl rfl ?_) | (refine DR_call1 _ (envC _ _ _ _ _) rfl rfl rfl rfl rfl ?_ (hc := by first | exact turned_c _ _ (by omega) (by omega))) | (refine DR_e1 rfl (DO_alloc rfl rfl rfl) ?_) | (refine DR_e1 rfl (DO_box1 rfl rfl) ?_) | (refine DR_e1 rfl (DO_store1 rfl rfl) ?_) | (refine DR_g1 rfl rfl ?_) | (refine DR_skip1 rfl rfl rfl rfl ?_) | (refine DR_eqa1 _ rfl rfl rfl rfl ?_) | (refine DR_q2 _ rfl rfl rfl ?_))); (refine DR_nil ?_; refine DW_drop1 [2, 3, 4, 5, 7, 11] ?_)
        have hX := And.intro sumD_eq (And.intro vf_at (And.intro wordsD_eq (And.intro bytesD_eq (ktD_eq))))
        refine DW_reg ?_; (repeat (first | (refine DR_q1 _ rfl rfl rfl ?_) | (refine DR_call1 _ (envC _ _ _ _ _) rfl rfl rfl rfl rfl ?_ (hc := by first | exact turned_c _ _ (by omega) (by omega))) | (refine DR_e1 rfl (DO_alloc rfl rfl rfl) ?_) | (refine DR_e1 rfl (DO_box1 rfl rfl) ?_) | (refine DR_e1 rfl (DO_store1 rfl rfl) ?_) | (refine DR_g1 rfl rfl ?_) | (refine DR_skip1 rfl rfl rfl rfl ?_) | (refine DR_eqa1 _ rfl rfl rfl rfl ?_) | (refine DR_q2 _ rfl rfl rfl ?_))); refine DR_nil ?_
        refine ⟨_, m' - 1, Weak.pick [2, 3, 4, 5, 7, 11], by omega, k + 1, by omega, ?_⟩
        refine pk1 ?_
        rw [← addK_eq]
        rfl
      · intro hc2
        have hkl : k = 8 := by have := of_decide_eq_false hc2; omega
        subst hkl
        refine DW_exit ?_
        refine ⟨_, m - 1, (Weak.pick [2, 3, 4, 5]).trans (Weak.take 3 (fun _ _ h => by cases h) (by rfl) (by rfl)), by omega, j + 1, by omega, ?_⟩
        rw [show 64 * (j + 1) = 64 * j + 64 by omega, ← List.drop_drop]
        subst hV
        rfl
  · intro hc
    have hjl : j = F.length / 64 := by
      have h1 := of_decide_eq_false hc
      rw [hdF] at h1
      omega
    subst hjl
    refine DW_exit ?_
    refine DW_drop1 [2, 3] ?_
    (repeat refine DW_seq ?_); refine DW_reg ?_; (repeat (first | (refine DR_q1 _ rfl rfl rfl ?_) | (refine DR_call1 _ (envC _ _ _ _ _) rfl rfl rfl rfl rfl ?_ (hc := by first | exact turned_c _ _ (by omega) (by omega))) | (refine DR_e1 rfl (DO_alloc rfl rfl rfl) ?_) | (refine DR_e1 rfl (DO_box1 rfl rfl) ?_) | (refine DR_e1 rfl (DO_store1 rfl rfl) ?_) | (refine DR_g1 rfl rfl ?_) | (refine DR_skip1 rfl rfl rfl rfl ?_) | (refine DR_eqa1 _ rfl rfl rfl rfl ?_) | (refine DR_q2 _ rfl rfl rfl ?_))); (refine DR_nil ?_; refine DW_drop1 [2, 3, 12] ?_)
    (repeat refine DW_seq ?_); refine DW_reg ?_; (repeat (first | (refine DR_q1 _ rfl rfl rfl ?_) | (refine DR_call1 _ (envC _ _ _ _ _) rfl rfl rfl rfl rfl ?_ (hc := by first | exact turned_c _ _ (by omega) (by omega))) | (refine DR_e1 rfl (DO_alloc rfl rfl rfl) ?_) | (refine DR_e1 rfl (DO_box1 rfl rfl) ?_) | (refine DR_e1 rfl (DO_store1 rfl rfl) ?_) | (refine DR_g1 rfl rfl ?_) | (refine DR_skip1 rfl rfl rfl rfl ?_) | (refine DR_eqa1 _ rfl rfl rfl rfl ?_) | (refine DR_q2 _ rfl rfl rfl ?_))); (refine DR_nil ?_; refine DW_drop1 [2, 3, 12, 13] ?_)
    generalize hV : runV F V0 (F.length / 64) = V
    (repeat refine DW_seq ?_); refine DW_block ?_
    refine DW_loop (fun m st => ∃ i, i + m = 32 ∧ st = mk [(2, .ptr 0 0), (3, .ptr 1 0), (12, .ptr 3 0), (13, iD (i : Int))] [some (.one (.arr .u8 32 (fun _ => 0))), some (.one (.arr .u32 8 (vf V))), some (.one ktD), some (.one (.arr .u8 32 (hg V i)))]) 32 ⟨_, Weak.refl _ _, 0, by omega, ?_⟩ ?_
    · have : hg V 0 = fun _ => 0 := by funext j; simp [hg]
      rw [this]
      rfl
    clear m hj hc
    rintro m _ ⟨i, hi, rfl⟩
    (repeat refine DW_seq ?_); refine DW_reg ?_; (repeat (first | (refine DR_q1 _ rfl rfl rfl ?_) | (refine DR_call1 _ (envC _ _ _ _ _) rfl rfl rfl rfl rfl ?_ (hc := by first | exact turned_c _ _ (by omega) (by omega))) | (refine DR_e1 rfl (DO_alloc rfl rfl rfl) ?_) | (refine DR_e1 rfl (DO_box1 rfl rfl) ?_) | (refine DR_e1 rfl (DO_store1 rfl rfl) ?_) | (refine DR_g1 rfl rfl ?_) | (refine DR_skip1 rfl rfl rfl rfl ?_) | (refine DR_eqa1 _ rfl rfl rfl rfl ?_) | (refine DR_q2 _ rfl rfl rfl ?_))); (refine DR_nil ?_; refine DW_drop1 [2, 3, 12, 13, 128] ?_)
    (repeat refine DW_seq ?_); refine DW_cond (by simp only [evD, mk, look, reduceIte, Nat.reduceEqDiff]; exact rfl) ?_ ?_
    · intro hc
      have hil : i < 32 := by have := of_decide_eq_true hc; omega
      refine DW_skip ?_
      refine DW_drop1 [2, 3, 12, 13] ?_
      refine DW_seq ?_
      refine DW_block ?_
      have e1 : ((i : Int) / 4).toNat = i / 4 := by omega
      have e2 : (24 - 8 * ((i : Int) % 4)).toNat = 24 - 8 * (i % 4) := by omega
      have e3 : ((24 - 8 * (i % 4) : Nat) : Int) = 24 - 8 * ((i : Int) % 4) := by omega
      have hX := And.intro vf_at (And.intro e1 (And.intro e2 (And.intro bytesD_eq (ktD_eq))))
      (repeat refine DW_seq ?_); refine DW_reg ?_; (repeat (first | (refine DR_q1 _ rfl rfl rfl ?_) | (refine DR_call1 _ (envC _ _ _ _ _) rfl rfl rfl rfl rfl ?_ (hc := by first | exact turned_c _ _ (by omega) (by omega))) | (refine DR_e1 rfl (DO_alloc rfl rfl rfl) ?_) | (refine DR_e1 rfl (DO_box1 rfl rfl) ?_) | (refine DR_e1 rfl (DO_store1 rfl rfl) ?_) | (refine DR_g1 rfl rfl ?_) | (refine DR_skip1 rfl rfl rfl rfl ?_) | (refine DR_eqa1 _ rfl rfl rfl rfl ?_) | (refine DR_q2 _ rfl rfl rfl ?_))); (refine DR_nil ?_; refine DW_drop1 [2, 3, 12, 13] ?_)
      have hX := And.intro vf_at (And.intro bytesD_eq (ktD_eq))
      refine DW_reg ?_; (repeat (first | (refine DR_q1 _ rfl rfl rfl ?_) | (refine DR_call1 _ (envC _ _ _ _ _) rfl rfl rfl rfl rfl ?_ (hc := by first | exact turned_c _ _ (by omega) (by omega))) | (refine DR_e1 rfl (DO_alloc rfl rfl rfl) ?_) | (refine DR_e1 rfl (DO_box1 rfl rfl) ?_) | (refine DR_e1 rfl (DO_store1 rfl rfl) ?_) | (refine DR_g1 rfl rfl ?_) | (refine DR_skip1 rfl rfl rfl rfl ?_) | (refine DR_eqa1 _ rfl rfl rfl rfl ?_) | (refine DR_q2 _ rfl rfl rfl ?_))); refine DR_nil ?_
      refine ⟨_, m - 1, Weak.pick [2, 3, 12, 13], by omega, i + 1, by omega, ?_⟩
      refine pk1 ?_
      rw [u32_shr _ _ (by omega), u32_u8, ← hg_succ]
      rfl
    · intro hc
      have hil : i = 32 := by have := of_decide_eq_false hc; omega
      subst hil
      refine DW_exit ?_
      refine DW_drop1 [2, 3, 12] ?_
      (repeat refine DW_seq ?_); refine DW_reg ?_; (repeat (first | (refine DR_q1 _ rfl rfl rfl ?_) | (refine DR_call1 _ (envC _ _ _ _ _) rfl rfl rfl rfl rfl ?_ (hc := by first | exact turned_c _ _ (by omega) (by omega))) | (refine DR_e1 rfl (DO_alloc rfl rfl rfl) ?_) | (refine DR_e1 rfl (DO_box1 rfl rfl) ?_) | (refine DR_e1 rfl (DO_store1 rfl rfl) ?_) | (refine DR_g1 rfl rfl ?_) | (refine DR_skip1 rfl rfl rfl rfl ?_) | (refine DR_eqa1 _ rfl rfl rfl rfl ?_) | (refine DR_q2 _ rfl rfl rfl ?_))); (refine DR_nil ?_; refine DW_drop1 [2] ?_)
      refine DW_ret ?_; refine ⟨_, _, by simp only [outD, resD, outV, unlist, List.all, noTup, byteD, implies_true, setD, bslF, buildF, buildL, List.zip_cons_cons, List.zip_nil_right, List.zip_nil_left, pureD, rng0, rng1, rng2, rng3, rng4, rng5, rng6, rng7, rng8, List.getD_cons_zero, List.getD_cons_succ, Nat.reduceLeDiff, decide_true, decide_false, List.all_cons, List.all_nil, dqF, nilF, callQ, argsD, Op.operands, Call.operands, evD, cD, gip, upd, look, List.map, List.map_cons, List.map_nil, binF, binI, shI, binS, unF, wD, kLo, kHi, kMod, kBits, convF, loadF, fieldF, faddrF, indexF, iaddrF, lenF, lenD, sliceF, sliceF3, minF, sliceD, cutL, bndF, sub, nc, aggT, aggB, scB, tnth, elems, L_B, L_mk, List.getElem?_cons_zero, List.getElem?_cons_succ, reduceIte, reduceCtorEq, Option.isSome, List.toList_toArray, Nat.reduceAdd, Nat.reduceSub, Nat.reduceMul, Nat.reduceEqDiff, Nat.reduceLT, Nat.reduceBEq, mkF, mkG, Bool.and_true, Bool.true_and, Bool.and_false, Bool.false_and, beq_self_eq_true, mkC, Int.reduceToNat, Int.toNat_natCast, Int.reduceAdd, Int.reduceSub, Int.reduceMul, Nat.zero_add, Nat.add_zero, Nat.mul_one, and_true, true_and, Option.getD_some, Option.getD_none, u32D, u8D, iD, bD, strD, u32_xor, u32_or, u32_and, u32_add, u32_not, u32_shr, u32_shl, u8_u32, u32_u8, envOf, tyT, gtab]; exact rfl, ?_, ?_⟩
      · trivial
      · refine Fin_arr fun i hi => ?_
        subst hV
        subst hF
        exact (if_pos (by omega)).trans (congrArg (fun x : UInt8 => ((x.toNat : Nat) : Int)) (sumB_at _ i hi).symm)
end Go.Proofs.YtedioenakmgdiaaDoor

namespace Go.Proofs.YtedioenakmgdiaaDoor
set_option linter.unusedSimpArgs false
set_option linter.unusedVariables false
set_option maxRecDepth 10000
open Go.RowKit
theorem runV_add (F : List UInt8) (V : Nat → UInt32) (q r : Nat) : runV F V (q + r) = runV (F.drop (64 * q)) (runV F V q) r := by
  induction r with
  | zero => rfl
  | succ r ih =>
    have : blk F (q + r) = blk (F.drop (64 * q)) r := by unfold blk; rw [List.drop_drop, show 64 * (q + r) = 64 * q + 64 * r by omega]
    show addS (blk F (q + r)) (runV F V (q + r)) = addS (blk (F.drop (64 * q)) r) (runV (F.drop (64 * q)) (runV F V q) r)
    rw [this, ih]
theorem runV_app (l m : List UInt8) (V : Nat → UInt32) (q : Nat) (h : 64 * q ≤ l.length) : runV (l ++ m) V q = runV l V q := by
  induction q with
  | zero => rfl
  | succ q ih =>
    have : blk (l ++ m) q = blk l q := by
      unfold blk
      rw [List.drop_append_of_le_length (by omega), List.take_append_of_le_length (by simp; omega)]
    show addS (blk (l ++ m) q) (runV (l ++ m) V q) = addS (blk l q) (runV l V q)
    rw [this, ih (by omega)]
theorem padZ_mod (a b : Nat) (h : a % 64 = b % 64) : padZ a = padZ b := by unfold padZ; omega
theorem fillS_split (l : List UInt8) (n q : Nat) (h : 64 * q ≤ l.length) : fillS l n = l.take (64 * q) ++ fillS (l.drop (64 * q)) n := by
  have e : padZ ((l.drop (64 * q)).length + 1) = padZ (l.length + 1) := padZ_mod _ _ (by rw [List.length_drop]; omega)
  unfold fillS fillB
  rw [e]
  simp only [← List.append_assoc, List.take_append_drop]
theorem sum_eq (l : List UInt8) : sumP l = sumR l := by
  have hq : 64 * (l.length / 64) ≤ l.length := by omega
  have e := fillS_split l l.length (l.length / 64) hq
  unfold sumP sumR
  generalize hR : fillS (l.drop (64 * (l.length / 64))) l.length = R at e ⊢
  have ht : (l.take (64 * (l.length / 64))).length = 64 * (l.length / 64) := by rw [List.length_take]; omega
  have hlen : (fillS l l.length).length / 64 = l.length / 64 + R.length / 64 := by
    rw [e, List.length_append, ht]; omega
  rw [hlen, runV_add]
  have hd : (fillS l l.length).drop (64 * (l.length / 64)) = R := by
    rw [e, List.drop_append_of_le_length (by omega), List.drop_of_length_le (by omega), List.nil_append]
  rw [hd]
  have h2 : runV (fillS l l.length) V0 (l.length / 64) = runV l V0 (l.length / 64) := by
    rw [e, runV_app _ _ _ _ (by omega)]
    have := runV_app (l.take (64 * (l.length / 64))) (l.drop (64 * (l.length / 64))) V0 (l.length / 64) (by omega)
    rw [List.take_append_drop] at this
    exact this.symm
  rw [h2]
end Go.Proofs.YtedioenakmgdiaaDoor

namespace Go.Proofs.YtedioenakmgdiaaDoor
set_option linter.unusedSimpArgs false
set_option linter.unusedVariables false
set_option maxRecDepth 10000
open Go.RowKit
theorem sumP_len (l : List UInt8) : (sumP l).length = 32 := by simp [sumP, sumB]
theorem sumR_len (l : List UInt8) : (sumR l).length = 32 := by rw [← sum_eq]; exact sumP_len l
theorem byteOf_u8 (x : UInt8) : byteOf (.v (.int .u8 (x.toNat : Int))) = x := by simp [byteOf]
theorem mid_eq (h : List UInt8) (n : Nat) (hn : n ≤ h.length) : ((List.range n).map fun i => D.v (.int .u8 ((h.getD (0 + i) 0).toNat : Int))).map byteOf = h.take n := by
  apply List.ext_getElem
  · simp; omega
  · intro i h1 h2
    simp only [List.getElem_map, List.getElem_range, byteOf_u8, Nat.zero_add, List.getElem_take]
    have : i < h.length := by simp at h2; omega
    simp [List.getD_eq_getElem?_getD, this]
set_option maxHeartbeats 1000000 in
theorem mid_c (l : List UInt8) (hl : l.length ≤ 1048576) : PC (envOf Tryd.prog) 103 [strD l] (strD ((sumP l).take 16)) := by
  have hX := and_true; refine PC_at Tryd.func103 rfl Tryd.ntmps103 Tryd.results103 rfl rfl (by simp only [argsL, Nat.reduceAdd, u32D, u8D, iD, bD, strD, u32_xor, u32_or, u32_and, u32_add, u32_not, u32_shr, u32_shl, u8_u32, u32_u8]; exact rfl) ?_; intro w0 A
  (repeat refine DW_seq ?_); refine DW_reg ?_; (repeat (first | (refine DR_q1 _ rfl rfl rfl ?_) | (refine DR_call1 _ (envC _ _ _ _ _) rfl rfl rfl rfl rfl ?_ (hc := by first | exact sum_c l hl)) | (refine DR_e1 rfl (DO_alloc rfl rfl rfl) ?_) | (refine DR_e1 rfl (DO_box1 rfl rfl) ?_) | (refine DR_e1 rfl (DO_store1 rfl rfl) ?_) | (refine DR_g1 rfl rfl ?_) | (refine DR_skip1 rfl rfl rfl rfl ?_) | (refine DR_eqa1 _ rfl rfl rfl rfl ?_) | (refine DR_q2 _ rfl rfl rfl ?_))); (refine DR_nil ?_; refine DW_drop1 [0] ?_)
  (repeat refine DW_seq ?_); refine DW_reg ?_; (repeat (first | (refine DR_q1 _ rfl rfl rfl ?_) | (refine DR_call1 _ (envC _ _ _ _ _) rfl rfl rfl rfl rfl ?_ (hc := by first | exact sum_c l hl)) | (refine DR_e1 rfl (DO_alloc rfl rfl rfl) ?_) | (refine DR_e1 rfl (DO_box1 rfl rfl) ?_) | (refine DR_e1 rfl (DO_store1 rfl rfl) ?_) | (refine DR_g1 rfl rfl ?_) | (refine DR_skip1 rfl rfl rfl rfl ?_) | (refine DR_eqa1 _ rfl rfl rfl rfl ?_) | (refine DR_q2 _ rfl rfl rfl ?_))); (refine DR_nil ?_; refine DW_drop1 [3] ?_)
  (repeat refine DW_seq ?_); refine DW_reg ?_; (repeat (first | (refine DR_q1 _ rfl rfl rfl ?_) | (refine DR_call1 _ (envC _ _ _ _ _) rfl rfl rfl rfl rfl ?_ (hc := by first | exact sum_c l hl)) | (refine DR_e1 rfl (DO_alloc rfl rfl rfl) ?_) | (refine DR_e1 rfl (DO_box1 rfl rfl) ?_) | (refine DR_e1 rfl (DO_store1 rfl rfl) ?_) | (refine DR_g1 rfl rfl ?_) | (refine DR_skip1 rfl rfl rfl rfl ?_) | (refine DR_eqa1 _ rfl rfl rfl rfl ?_) | (refine DR_q2 _ rfl rfl rfl ?_))); (refine DR_nil ?_; refine DW_drop1 [2] ?_)
  (repeat refine DW_seq ?_); refine DW_ret ?_; refine ⟨_, _, by simp only [outD, resD, outV, unlist, List.all, noTup, byteD, implies_true, setD, bslF, buildF, buildL, List.zip_cons_cons, List.zip_nil_right, List.zip_nil_left, pureD, rng0, rng1, rng2, rng3, rng4, rng5, rng6, rng7, rng8, List.getD_cons_zero, List.getD_cons_succ, Nat.reduceLeDiff, decide_true, decide_false, List.all_cons, List.all_nil, dqF, nilF, callQ, argsD, Op.operands, Call.operands, evD, cD, gip, upd, look, List.map, List.map_cons, List.map_nil, binF, binI, shI, binS, unF, wD, kLo, kHi, kMod, kBits, convF, loadF, fieldF, faddrF, indexF, iaddrF, lenF, lenD, sliceF, sliceF3, minF, sliceD, cutL, bndF, sub, nc, aggT, aggB, scB, tnth, elems, L_B, L_mk, List.getElem?_cons_zero, List.getElem?_cons_succ, reduceIte, reduceCtorEq, Option.isSome, List.toList_toArray, Nat.reduceAdd, Nat.reduceSub, Nat.reduceMul, Nat.reduceEqDiff, Nat.reduceLT, Nat.reduceBEq, mkF, mkG, Bool.and_true, Bool.true_and, Bool.and_false, Bool.false_and, beq_self_eq_true, mkC, Int.reduceToNat, Int.toNat_natCast, Int.reduceAdd, Int.reduceSub, Int.reduceMul, Nat.zero_add, Nat.add_zero, Nat.mul_one, and_true, true_and, Option.getD_some, Option.getD_none, u32D, u8D, iD, bD, strD, u32_xor, u32_or, u32_and, u32_add, u32_not, u32_shr, u32_shl, u8_u32, u32_u8, envOf, tyT, gtab]; exact rfl, ?_, ?_⟩
  · trivial
  · rw [← mid_eq _ 16 (by rw [sumP_len]; omega)]; exact Fin_pure rfl
set_option maxHeartbeats 1000000 in
theorem refmid_c (l : List UInt8) (hl : l.length ≤ 1048576) : PC (envOf Tryd.prog) 99 [strD l] (strD ((sumR l).take 16)) := by
  have hX := and_true; refine PC_at Tryd.func99 rfl Tryd.ntmps99 Tryd.results99 rfl rfl (by simp only [argsL, Nat.reduceAdd, u32D, u8D, iD, bD, strD, u32_xor, u32_or, u32_and, u32_add, u32_not, u32_shr, u32_shl, u8_u32, u32_u8]; exact rfl) ?_; intro w0 A
  (repeat refine DW_seq ?_); refine DW_reg ?_; (repeat (first | (refine DR_q1 _ rfl rfl rfl ?_) | (refine DR_call1 _ (envC _ _ _ _ _) rfl rfl rfl rfl rfl ?_ (hc := by first | exact refsum_c l hl)) | (refine DR_e1 rfl (DO_alloc rfl rfl rfl) ?_) | (refine DR_e1 rfl (DO_box1 rfl rfl) ?_) | (refine DR_e1 rfl (DO_store1 rfl rfl) ?_) | (refine DR_g1 rfl rfl ?_) | (refine DR_skip1 rfl rfl rfl rfl ?_) | (refine DR_eqa1 _ rfl rfl rfl rfl ?_) | (refine DR_q2 _ rfl rfl rfl ?_))); (refine DR_nil ?_; refine DW_drop1 [0] ?_)
  (repeat refine DW_seq ?_); refine DW_reg ?_; (repeat (first | (refine DR_q1 _ rfl rfl rfl ?_) | (refine DR_call1 _ (envC _ _ _ _ _) rfl rfl rfl rfl rfl ?_ (hc := by first | exact refsum_c l hl)) | (refine DR_e1 rfl (DO_alloc rfl rfl rfl) ?_) | (refine DR_e1 rfl (DO_box1 rfl rfl) ?_) | (refine DR_e1 rfl (DO_store1 rfl rfl) ?_) | (refine DR_g1 rfl rfl ?_) | (refine DR_skip1 rfl rfl rfl rfl ?_) | (refine DR_eqa1 _ rfl rfl rfl rfl ?_) | (refine DR_q2 _ rfl rfl rfl ?_))); (refine DR_nil ?_; refine DW_drop1 [3] ?_)
  (repeat refine DW_seq ?_); refine DW_reg ?_; (repeat (first | (refine DR_q1 _ rfl rfl rfl ?_) | (refine DR_call1 _ (envC _ _ _ _ _) rfl rfl rfl rfl rfl ?_ (hc := by first | exact refsum_c l hl)) | (refine DR_e1 rfl (DO_alloc rfl rfl rfl) ?_) | (refine DR_e1 rfl (DO_box1 rfl rfl) ?_) | (refine DR_e1 rfl (DO_store1 rfl rfl) ?_) | (refine DR_g1 rfl rfl ?_) | (refine DR_skip1 rfl rfl rfl rfl ?_) | (refine DR_eqa1 _ rfl rfl rfl rfl ?_) | (refine DR_q2 _ rfl rfl rfl ?_))); (refine DR_nil ?_; refine DW_drop1 [2] ?_)
  (repeat refine DW_seq ?_); refine DW_ret ?_; refine ⟨_, _, by simp only [outD, resD, outV, unlist, List.all, noTup, byteD, implies_true, setD, bslF, buildF, buildL, List.zip_cons_cons, List.zip_nil_right, List.zip_nil_left, pureD, rng0, rng1, rng2, rng3, rng4, rng5, rng6, rng7, rng8, List.getD_cons_zero, List.getD_cons_succ, Nat.reduceLeDiff, decide_true, decide_false, List.all_cons, List.all_nil, dqF, nilF, callQ, argsD, Op.operands, Call.operands, evD, cD, gip, upd, look, List.map, List.map_cons, List.map_nil, binF, binI, shI, binS, unF, wD, kLo, kHi, kMod, kBits, convF, loadF, fieldF, faddrF, indexF, iaddrF, lenF, lenD, sliceF, sliceF3, minF, sliceD, cutL, bndF, sub, nc, aggT, aggB, scB, tnth, elems, L_B, L_mk, List.getElem?_cons_zero, List.getElem?_cons_succ, reduceIte, reduceCtorEq, Option.isSome, List.toList_toArray, Nat.reduceAdd, Nat.reduceSub, Nat.reduceMul, Nat.reduceEqDiff, Nat.reduceLT, Nat.reduceBEq, mkF, mkG, Bool.and_true, Bool.true_and, Bool.and_false, Bool.false_and, beq_self_eq_true, mkC, Int.reduceToNat, Int.toNat_natCast, Int.reduceAdd, Int.reduceSub, Int.reduceMul, Nat.zero_add, Nat.add_zero, Nat.mul_one, and_true, true_and, Option.getD_some, Option.getD_none, u32D, u8D, iD, bD, strD, u32_xor, u32_or, u32_and, u32_add, u32_not, u32_shr, u32_shl, u8_u32, u32_u8, envOf, tyT, gtab]; exact rfl, ?_, ?_⟩
  · trivial
  · rw [← mid_eq _ 16 (by rw [sumR_len]; omega)]; exact Fin_pure rfl
end Go.Proofs.YtedioenakmgdiaaDoor

namespace Go.Proofs.YtedioenakmgdiaaDoor
set_option linter.unusedSimpArgs false
set_option linter.unusedVariables false
set_option maxRecDepth 10000
open Go.RowKit
theorem mid_eq' (h : List UInt8) (n : Nat) (hn : n ≤ h.length) : ((List.range n).map fun i => D.v (.int .u8 ((h.getD i 0).toNat : Int))).map byteOf = h.take n := by
  have := mid_eq h n hn
  simpa only [Nat.zero_add] using this
end Go.Proofs.YtedioenakmgdiaaDoor
