/- A sum, read from its digits, as the document says. -/
import Derived.Test.YtpibemolnjmgoaaDoorSv
namespace Go.Proofs.YtpibemolnjmgoaaDoor
set_option linter.unusedSimpArgs false
set_option linter.unusedVariables false
open Go.RowKit
theorem digN_v {c : UInt8} (h : digB c = true) : digN c = digV c ∧ (digV c).toNat < 16 := by
  have e : digN c ≠ 16 := by simpa [digB] using h
  exact ⟨by unfold digV; rw [if_neg e], digV_lt c⟩
theorem digN_n {c : UInt8} (h : digB c = false) : digN c = 16 := by simpa [digB] using h
theorem gt15 {c : UInt8} : decide ((15 : Int) < (digN c).toNat) = !digB c := by
  cases h : digB c
  · rw [digN_n h]; rfl
  · obtain ⟨a, b⟩ := digN_v h
    rw [a]; simp; omega
theorem u8_16 (x y : UInt8) (hx : x.toNat < 16) (hy : y.toNat < 16) : ((16 : Int) * (x.toNat : Int) % (256 : Int) + (y.toNat : Int)) % (256 : Int) = ((x <<< 4 ||| y).toNat : Int) := by
  have : ∀ a b : _root_.Fin 16, ((16 : Int) * (a.val : Int) % (256 : Int) + (b.val : Int)) % (256 : Int) = ((UInt8.ofNat a.val <<< 4 ||| UInt8.ofNat b.val).toNat : Int) := by decide +kernel
  have h := this ⟨x.toNat, hx⟩ ⟨y.toNat, hy⟩
  simpa using h
set_option maxHeartbeats 2000000 in
theorem refunhex_c (t : List UInt8) : PC (envOf Tryd.prog) 17 [strD t] (unhexD t) := by
  have hX := and_true; refine PC_at Tryd.func17 rfl Tryd.ntmps17 Tryd.results17 rfl rfl (by simp only [argsL, Nat.reduceAdd, u32D, u8D, iD, bD, strD, u32_xor, u32_or, u32_and, u32_add, u32_not, u32_shr, u32_shl, u8_u32, u32_u8]; exact rfl) ?_; intro w0 A
  (repeat refine DW_seq ?_); refine DW_reg ?_; (repeat (first | (refine DR_q1 _ rfl rfl rfl ?_) | (refine DR_call1 _ (envC _ _ _ _ _) rfl rfl rfl rfl rfl ?_ (hc := by first | exact refdigit_c _)) | (refine DR_e1 rfl (DO_alloc rfl rfl rfl) ?_) | (refine DR_e1 rfl (DO_box1 rfl rfl) ?_) | (refine DR_e1 rfl (DO_store1 rfl rfl) ?_) | (refine DR_g1 rfl rfl ?_) | (refine DR_skip1 rfl rfl rfl rfl ?_) | (refine DR_eqa1 _ rfl rfl rfl rfl ?_) | (refine DR_q2 _ rfl rfl rfl ?_))); (refine DR_nil ?_; refine DW_drop1 [0, 2] ?_)
  (repeat refine DW_seq ?_); refine DW_reg ?_; (repeat (first | (refine DR_q1 _ rfl rfl rfl ?_) | (refine DR_call1 _ (envC _ _ _ _ _) rfl rfl rfl rfl rfl ?_ (hc := by first | exact refdigit_c _)) | (refine DR_e1 rfl (DO_alloc rfl rfl rfl) ?_) | (refine DR_e1 rfl (DO_box1 rfl rfl) ?_) | (refine DR_e1 rfl (DO_store1 rfl rfl) ?_) | (refine DR_g1 rfl rfl ?_) | (refine DR_skip1 rfl rfl rfl rfl ?_) | (refine DR_eqa1 _ rfl rfl rfl rfl ?_) | (refine DR_q2 _ rfl rfl rfl ?_))); (refine DR_nil ?_; refine DW_drop1 [0, 2, 4] ?_)
  (repeat refine DW_seq ?_); refine DW_reg ?_; (repeat (first | (refine DR_q1 _ rfl rfl rfl ?_) | (refine DR_call1 _ (envC _ _ _ _ _) rfl rfl rfl rfl rfl ?_ (hc := by first | exact refdigit_c _)) | (refine DR_e1 rfl (DO_alloc rfl rfl rfl) ?_) | (refine DR_e1 rfl (DO_box1 rfl rfl) ?_) | (refine DR_e1 rfl (DO_store1 rfl rfl) ?_) | (refine DR_g1 rfl rfl ?_) | (refine DR_skip1 rfl rfl rfl rfl ?_) | (refine DR_eqa1 _ rfl rfl rfl rfl ?_) | (refine DR_q2 _ rfl rfl rfl ?_))); (refine DR_nil ?_; refine DW_drop1 [0, 2, 4, 10] ?_)
  (repeat refine DW_seq ?_); (repeat refine DW_seq ?_); refine DW_cond (by simp only [evD, mk, look, reduceIte, Nat.reduceEqDiff]; exact rfl) ?_ ?_
  · intro hc
    have hne : t.length ≠ 64 := by simp at hc; omega
    (repeat refine DW_seq ?_); refine DW_reg ?_; (repeat (first | (refine DR_q1 _ rfl rfl rfl ?_) | (refine DR_call1 _ (envC _ _ _ _ _) rfl rfl rfl rfl rfl ?_ (hc := by first | exact refdigit_c _)) | (refine DR_e1 rfl (DO_alloc rfl rfl rfl) ?_) | (refine DR_e1 rfl (DO_box1 rfl rfl) ?_) | (refine DR_e1 rfl (DO_store1 rfl rfl) ?_) | (refine DR_g1 rfl rfl ?_) | (refine DR_skip1 rfl rfl rfl rfl ?_) | (refine DR_eqa1 _ rfl rfl rfl rfl ?_) | (refine DR_q2 _ rfl rfl rfl ?_))); (refine DR_nil ?_; refine DW_drop1 [2, 3] ?_)
    (repeat refine DW_seq ?_); refine DW_ret ?_; refine ⟨_, _, by simp only [outD, resD, outV, unlist, List.all, noTup, byteD, implies_true, setD, bslF, buildF, buildL, List.zip_cons_cons, List.zip_nil_right, List.zip_nil_left, pureD, rng0, rng1, rng2, rng3, rng4, rng5, rng6, rng7, rng8, List.getD_cons_zero, List.getD_cons_succ, Nat.reduceLeDiff, decide_true, decide_false, List.all_cons, List.all_nil, dqF, nilF, callQ, argsD, Op.operands, Call.operands, evD, cD, gip, upd, look, List.map, List.map_cons, List.map_nil, binF, binI, shI, binS, unF, wD, kLo, kHi, kMod, kBits, convF, loadF, fieldF, faddrF, indexF, iaddrF, lenF, lenD, sliceF, sliceD, cutL, bndF, sub, nc, aggT, aggB, scB, tnth, elems, L_B, L_mk, List.getElem?_cons_zero, List.getElem?_cons_succ, reduceIte, reduceCtorEq, Option.isSome, List.toList_toArray, Nat.reduceAdd, Nat.reduceSub, Nat.reduceMul, Nat.reduceEqDiff, Nat.reduceLT, Nat.reduceBEq, mkF, Bool.and_true, Bool.true_and, Bool.and_false, Bool.false_and, beq_self_eq_true, mkC, Int.reduceToNat, Int.toNat_natCast, Int.reduceAdd, Int.reduceSub, Int.reduceMul, Nat.zero_add, Nat.add_zero, Nat.mul_one, and_true, true_and, Option.getD_some, Option.getD_none, u32D, u8D, iD, bD, strD, u32_xor, u32_or, u32_and, u32_add, u32_not, u32_shr, u32_shl, u8_u32, u32_u8, envOf, tyT, gtab]; exact rfl, ?_, ?_⟩
    · trivial
    · rw [unhex_no (okAll_len hne)]; exact Fin_pure rfl
  · intro hc
    have h64 : t.length = 64 := by simp at hc; omega
    (repeat refine DW_seq ?_); refine DW_skip ?_
    (repeat refine DW_seq ?_); refine DW_reg ?_; (repeat (first | (refine DR_q1 _ rfl rfl rfl ?_) | (refine DR_call1 _ (envC _ _ _ _ _) rfl rfl rfl rfl rfl ?_ (hc := by first | exact refdigit_c _)) | (refine DR_e1 rfl (DO_alloc rfl rfl rfl) ?_) | (refine DR_e1 rfl (DO_box1 rfl rfl) ?_) | (refine DR_e1 rfl (DO_store1 rfl rfl) ?_) | (refine DR_g1 rfl rfl ?_) | (refine DR_skip1 rfl rfl rfl rfl ?_) | (refine DR_eqa1 _ rfl rfl rfl rfl ?_) | (refine DR_q2 _ rfl rfl rfl ?_))); (refine DR_nil ?_; refine DW_drop1 [0, 2, 4, 5] ?_)
    (repeat refine DW_seq ?_); refine DW_block ?_
    refine DW_loop (fun m st => ∃ k, k + m = 32 ∧ (∀ j, j < k → unOK t j = true) ∧ st = mk [(0, strD t), (2, .ptr 0 0), (4, .ptr 1 0), (5, iD (k : Int))] [some (.one (.arr .u8 32 (fun _ => 0))), some (.one (.arr .u8 32 (unG t k)))]) 32 ⟨_, Weak.refl _ _, 0, by omega, by intro j hj; omega, ?_⟩ ?_
    · have : unG t 0 = fun _ => 0 := by funext j; simp [unG]
      rw [this]; simp [iD, strD]
    clear hc
    rintro m _ ⟨k, hk, hok, rfl⟩
    (repeat refine DW_seq ?_); refine DW_reg ?_; (repeat (first | (refine DR_q1 _ rfl rfl rfl ?_) | (refine DR_call1 _ (envC _ _ _ _ _) rfl rfl rfl rfl rfl ?_ (hc := by first | exact refdigit_c _)) | (refine DR_e1 rfl (DO_alloc rfl rfl rfl) ?_) | (refine DR_e1 rfl (DO_box1 rfl rfl) ?_) | (refine DR_e1 rfl (DO_store1 rfl rfl) ?_) | (refine DR_g1 rfl rfl ?_) | (refine DR_skip1 rfl rfl rfl rfl ?_) | (refine DR_eqa1 _ rfl rfl rfl rfl ?_) | (refine DR_q2 _ rfl rfl rfl ?_))); (refine DR_nil ?_; refine DW_drop1 [0, 2, 4, 5, 13] ?_)
    (repeat refine DW_seq ?_); (repeat refine DW_seq ?_); refine DW_cond (by simp only [evD, mk, look, reduceIte, Nat.reduceEqDiff]; exact rfl) ?_ ?_
    · intro hc
      have hk32 : k < 32 := by have := of_decide_eq_true hc; omega
      have n1 : (2 * (k : Int)).toNat = 2 * k := by omega
      have n2 : (2 * (k : Int) + 1).toNat = 2 * k + 1 := by omega
      have hX := And.intro n1 (n2)
      (repeat refine DW_seq ?_); refine DW_skip ?_
      (repeat refine DW_seq ?_); refine DW_block ?_
      (repeat refine DW_seq ?_); (repeat refine DW_seq ?_); refine DW_drwq (by kernel_rfl) ?_; (repeat (first | (refine DRq_q1 _ rfl rfl rfl ?_) | (refine DRq_call1 _ (envC _ _ _ _ _) rfl rfl rfl rfl rfl ?_ (hc := by first | exact refdigit_c _)) | (refine DRq_g1 rfl rfl ?_) | (refine DRq_skip1 rfl rfl rfl rfl ?_) | (refine DRq_eqa1 _ rfl rfl rfl rfl ?_) | (refine DRq_q2 _ rfl rfl rfl ?_))); refine DRq_nil ?_; refine DW_drop1 [0, 2, 4, 5, 6, 7] ?_
      cases ha : digB (t.getD (2 * k) 0)
      · -- no digit
        have ga := gt15 (c := t.getD (2 * k) 0)
        rw [ha] at ga
        have hX := And.intro ga (Bool.not_false)
        (repeat refine DW_seq ?_); refine DW_reg ?_; (repeat (first | (refine DR_q1 _ rfl rfl rfl ?_) | (refine DR_call1 _ (envC _ _ _ _ _) rfl rfl rfl rfl rfl ?_ (hc := by first | exact refdigit_c _)) | (refine DR_e1 rfl (DO_alloc rfl rfl rfl) ?_) | (refine DR_e1 rfl (DO_box1 rfl rfl) ?_) | (refine DR_e1 rfl (DO_store1 rfl rfl) ?_) | (refine DR_g1 rfl rfl ?_) | (refine DR_skip1 rfl rfl rfl rfl ?_) | (refine DR_eqa1 _ rfl rfl rfl rfl ?_) | (refine DR_q2 _ rfl rfl rfl ?_))); (refine DR_nil ?_; refine DW_drop1 [0, 2, 4, 5, 6, 7, 32] ?_)
        (repeat refine DW_seq ?_); (repeat refine DW_seq ?_); refine DW_cond (by simp only [evD, mk, look, reduceIte, Nat.reduceEqDiff]; exact rfl) ?_ ?_
        · intro hc
          (repeat refine DW_seq ?_); refine DW_reg ?_; (repeat (first | (refine DR_q1 _ rfl rfl rfl ?_) | (refine DR_call1 _ (envC _ _ _ _ _) rfl rfl rfl rfl rfl ?_ (hc := by first | exact refdigit_c _)) | (refine DR_e1 rfl (DO_alloc rfl rfl rfl) ?_) | (refine DR_e1 rfl (DO_box1 rfl rfl) ?_) | (refine DR_e1 rfl (DO_store1 rfl rfl) ?_) | (refine DR_g1 rfl rfl ?_) | (refine DR_skip1 rfl rfl rfl rfl ?_) | (refine DR_eqa1 _ rfl rfl rfl rfl ?_) | (refine DR_q2 _ rfl rfl rfl ?_))); (refine DR_nil ?_; refine DW_drop1 [2, 3] ?_)
          (repeat refine DW_seq ?_); refine DW_ret ?_; refine ⟨_, _, by simp only [outD, resD, outV, unlist, List.all, noTup, byteD, implies_true, setD, bslF, buildF, buildL, List.zip_cons_cons, List.zip_nil_right, List.zip_nil_left, pureD, rng0, rng1, rng2, rng3, rng4, rng5, rng6, rng7, rng8, List.getD_cons_zero, List.getD_cons_succ, Nat.reduceLeDiff, decide_true, decide_false, List.all_cons, List.all_nil, dqF, nilF, callQ, argsD, Op.operands, Call.operands, evD, cD, gip, upd, look, List.map, List.map_cons, List.map_nil, binF, binI, shI, binS, unF, wD, kLo, kHi, kMod, kBits, convF, loadF, fieldF, faddrF, indexF, iaddrF, lenF, lenD, sliceF, sliceD, cutL, bndF, sub, nc, aggT, aggB, scB, tnth, elems, L_B, L_mk, List.getElem?_cons_zero, List.getElem?_cons_succ, reduceIte, reduceCtorEq, Option.isSome, List.toList_toArray, Nat.reduceAdd, Nat.reduceSub, Nat.reduceMul, Nat.reduceEqDiff, Nat.reduceLT, Nat.reduceBEq, mkF, Bool.and_true, Bool.true_and, Bool.and_false, Bool.false_and, beq_self_eq_true, mkC, Int.reduceToNat, Int.toNat_natCast, Int.reduceAdd, Int.reduceSub, Int.reduceMul, Nat.zero_add, Nat.add_zero, Nat.mul_one, and_true, true_and, Option.getD_some, Option.getD_none, u32D, u8D, iD, bD, strD, u32_xor, u32_or, u32_and, u32_add, u32_not, u32_shr, u32_shl, u8_u32, u32_u8, envOf, tyT, gtab]; exact rfl, ?_, ?_⟩
          · trivial
          · rw [unhex_no (okAll_at hk32 (by unfold unOK; rw [ha]; rfl))]; exact Fin_pure rfl
        · intro hc; cases hc
      · cases hb : digB (t.getD (2 * k + 1) 0)
        · -- no digit
          have ga := gt15 (c := t.getD (2 * k) 0)
          have gb := gt15 (c := t.getD (2 * k + 1) 0)
          rw [ha] at ga
          rw [hb] at gb
          have hX := And.intro ga (And.intro gb (And.intro Bool.not_false (Bool.not_true)))
          (repeat refine DW_seq ?_); refine DW_reg ?_; (repeat (first | (refine DR_q1 _ rfl rfl rfl ?_) | (refine DR_call1 _ (envC _ _ _ _ _) rfl rfl rfl rfl rfl ?_ (hc := by first | exact refdigit_c _)) | (refine DR_e1 rfl (DO_alloc rfl rfl rfl) ?_) | (refine DR_e1 rfl (DO_box1 rfl rfl) ?_) | (refine DR_e1 rfl (DO_store1 rfl rfl) ?_) | (refine DR_g1 rfl rfl ?_) | (refine DR_skip1 rfl rfl rfl rfl ?_) | (refine DR_eqa1 _ rfl rfl rfl rfl ?_) | (refine DR_q2 _ rfl rfl rfl ?_))); (refine DR_nil ?_; refine DW_drop1 [0, 2, 4, 5, 6, 7, 32] ?_)
          (repeat refine DW_seq ?_); (repeat refine DW_seq ?_); refine DW_cond (by simp only [evD, mk, look, reduceIte, Nat.reduceEqDiff]; exact rfl) ?_ ?_
          · intro hc
            (repeat refine DW_seq ?_); refine DW_reg ?_; (repeat (first | (refine DR_q1 _ rfl rfl rfl ?_) | (refine DR_call1 _ (envC _ _ _ _ _) rfl rfl rfl rfl rfl ?_ (hc := by first | exact refdigit_c _)) | (refine DR_e1 rfl (DO_alloc rfl rfl rfl) ?_) | (refine DR_e1 rfl (DO_box1 rfl rfl) ?_) | (refine DR_e1 rfl (DO_store1 rfl rfl) ?_) | (refine DR_g1 rfl rfl ?_) | (refine DR_skip1 rfl rfl rfl rfl ?_) | (refine DR_eqa1 _ rfl rfl rfl rfl ?_) | (refine DR_q2 _ rfl rfl rfl ?_))); (refine DR_nil ?_; refine DW_drop1 [2, 3] ?_)
            (repeat refine DW_seq ?_); refine DW_ret ?_; refine ⟨_, _, by simp only [outD, resD, outV, unlist, List.all, noTup, byteD, implies_true, setD, bslF, buildF, buildL, List.zip_cons_cons, List.zip_nil_right, List.zip_nil_left, pureD, rng0, rng1, rng2, rng3, rng4, rng5, rng6, rng7, rng8, List.getD_cons_zero, List.getD_cons_succ, Nat.reduceLeDiff, decide_true, decide_false, List.all_cons, List.all_nil, dqF, nilF, callQ, argsD, Op.operands, Call.operands, evD, cD, gip, upd, look, List.map, List.map_cons, List.map_nil, binF, binI, shI, binS, unF, wD, kLo, kHi, kMod, kBits, convF, loadF, fieldF, faddrF, indexF, iaddrF, lenF, lenD, sliceF, sliceD, cutL, bndF, sub, nc, aggT, aggB, scB, tnth, elems, L_B, L_mk, List.getElem?_cons_zero, List.getElem?_cons_succ, reduceIte, reduceCtorEq, Option.isSome, List.toList_toArray, Nat.reduceAdd, Nat.reduceSub, Nat.reduceMul, Nat.reduceEqDiff, Nat.reduceLT, Nat.reduceBEq, mkF, Bool.and_true, Bool.true_and, Bool.and_false, Bool.false_and, beq_self_eq_true, mkC, Int.reduceToNat, Int.toNat_natCast, Int.reduceAdd, Int.reduceSub, Int.reduceMul, Nat.zero_add, Nat.add_zero, Nat.mul_one, and_true, true_and, Option.getD_some, Option.getD_none, u32D, u8D, iD, bD, strD, u32_xor, u32_or, u32_and, u32_add, u32_not, u32_shr, u32_shl, u8_u32, u32_u8, envOf, tyT, gtab]; exact rfl, ?_, ?_⟩
            · trivial
            · rw [unhex_no (okAll_at hk32 (by unfold unOK; rw [ha, hb]; rfl))]; exact Fin_pure rfl
          · intro hc; cases hc
        · have ga := gt15 (c := t.getD (2 * k) 0)
          have gb := gt15 (c := t.getD (2 * k + 1) 0)
          rw [ha] at ga
          rw [hb] at gb
          obtain ⟨va, la⟩ := digN_v ha
          obtain ⟨vb, lb⟩ := digN_v hb
          have s1 := u8_16 _ _ la lb
          have hX := And.intro ga (And.intro gb (And.intro Bool.not_false (Bool.not_true)))
          (repeat refine DW_seq ?_); refine DW_reg ?_; (repeat (first | (refine DR_q1 _ rfl rfl rfl ?_) | (refine DR_call1 _ (envC _ _ _ _ _) rfl rfl rfl rfl rfl ?_ (hc := by first | exact refdigit_c _)) | (refine DR_e1 rfl (DO_alloc rfl rfl rfl) ?_) | (refine DR_e1 rfl (DO_box1 rfl rfl) ?_) | (refine DR_e1 rfl (DO_store1 rfl rfl) ?_) | (refine DR_g1 rfl rfl ?_) | (refine DR_skip1 rfl rfl rfl rfl ?_) | (refine DR_eqa1 _ rfl rfl rfl rfl ?_) | (refine DR_q2 _ rfl rfl rfl ?_))); (refine DR_nil ?_; refine DW_drop1 [0, 2, 4, 5, 6, 7, 32] ?_)
          (repeat refine DW_seq ?_); (repeat refine DW_seq ?_); refine DW_cond (by simp only [evD, mk, look, reduceIte, Nat.reduceEqDiff]; exact rfl) ?_ ?_
          · intro hc; cases hc
          · intro hc
            (repeat refine DW_seq ?_); refine DW_skip ?_
            have hX := And.intro va (And.intro vb (s1))
            (repeat refine DW_seq ?_); refine DW_reg ?_; (repeat (first | (refine DR_q1 _ rfl rfl rfl ?_) | (refine DR_call1 _ (envC _ _ _ _ _) rfl rfl rfl rfl rfl ?_ (hc := by first | exact refdigit_c _)) | (refine DR_e1 rfl (DO_alloc rfl rfl rfl) ?_) | (refine DR_e1 rfl (DO_box1 rfl rfl) ?_) | (refine DR_e1 rfl (DO_store1 rfl rfl) ?_) | (refine DR_g1 rfl rfl ?_) | (refine DR_skip1 rfl rfl rfl rfl ?_) | (refine DR_eqa1 _ rfl rfl rfl rfl ?_) | (refine DR_q2 _ rfl rfl rfl ?_))); (refine DR_nil ?_; refine DW_drop1 [0, 2, 4, 5] ?_)
            refine DW_reg ?_; (repeat (first | (refine DR_q1 _ rfl rfl rfl ?_) | (refine DR_call1 _ (envC _ _ _ _ _) rfl rfl rfl rfl rfl ?_ (hc := by first | exact refdigit_c _)) | (refine DR_e1 rfl (DO_alloc rfl rfl rfl) ?_) | (refine DR_e1 rfl (DO_box1 rfl rfl) ?_) | (refine DR_e1 rfl (DO_store1 rfl rfl) ?_) | (refine DR_g1 rfl rfl ?_) | (refine DR_skip1 rfl rfl rfl rfl ?_) | (refine DR_eqa1 _ rfl rfl rfl rfl ?_) | (refine DR_q2 _ rfl rfl rfl ?_))); refine DR_nil ?_
            refine ⟨_, m - 1, Weak.pick [0, 2, 4, 5], by omega, k + 1, by omega, ?_, ?_⟩
            · intro j hj
              by_cases hjk : j = k
              · subst hjk; unfold unOK; rw [ha, hb]; rfl
              · exact hok j (by omega)
            · refine pk1 ?_
              rw [← unG_succ]
              rfl
    · intro hc
      have hk32 : k = 32 := by have := of_decide_eq_false hc; omega
      subst hk32
      refine DW_exit ?_
      refine DW_drop1 [2, 4] ?_
      refine DW_weak (Weak.arr 1 (g := fun i => (((List.range 32).map (unB t)).getD i 0).toNat) rfl (fun i hi => ?_)) ?_
      · simp [unG, hi, List.getD_eq_getElem?_getD]
      (repeat refine DW_seq ?_); refine DW_reg ?_; (repeat (first | (refine DR_q1 _ rfl rfl rfl ?_) | (refine DR_call1 _ (envC _ _ _ _ _) rfl rfl rfl rfl rfl ?_ (hc := by first | exact refdigit_c _)) | (refine DR_e1 rfl (DO_alloc rfl rfl rfl) ?_) | (refine DR_e1 rfl (DO_box1 rfl rfl) ?_) | (refine DR_e1 rfl (DO_store1 rfl rfl) ?_) | (refine DR_g1 rfl rfl ?_) | (refine DR_skip1 rfl rfl rfl rfl ?_) | (refine DR_eqa1 _ rfl rfl rfl rfl ?_) | (refine DR_q2 _ rfl rfl rfl ?_))); (refine DR_nil ?_; refine DW_drop1 [2, 3] ?_)
      (repeat refine DW_seq ?_); refine DW_ret ?_; refine ⟨_, _, by simp only [outD, resD, outV, unlist, List.all, noTup, byteD, implies_true, setD, bslF, buildF, buildL, List.zip_cons_cons, List.zip_nil_right, List.zip_nil_left, pureD, rng0, rng1, rng2, rng3, rng4, rng5, rng6, rng7, rng8, List.getD_cons_zero, List.getD_cons_succ, Nat.reduceLeDiff, decide_true, decide_false, List.all_cons, List.all_nil, dqF, nilF, callQ, argsD, Op.operands, Call.operands, evD, cD, gip, upd, look, List.map, List.map_cons, List.map_nil, binF, binI, shI, binS, unF, wD, kLo, kHi, kMod, kBits, convF, loadF, fieldF, faddrF, indexF, iaddrF, lenF, lenD, sliceF, sliceD, cutL, bndF, sub, nc, aggT, aggB, scB, tnth, elems, L_B, L_mk, List.getElem?_cons_zero, List.getElem?_cons_succ, reduceIte, reduceCtorEq, Option.isSome, List.toList_toArray, Nat.reduceAdd, Nat.reduceSub, Nat.reduceMul, Nat.reduceEqDiff, Nat.reduceLT, Nat.reduceBEq, mkF, Bool.and_true, Bool.true_and, Bool.and_false, Bool.false_and, beq_self_eq_true, mkC, Int.reduceToNat, Int.toNat_natCast, Int.reduceAdd, Int.reduceSub, Int.reduceMul, Nat.zero_add, Nat.add_zero, Nat.mul_one, and_true, true_and, Option.getD_some, Option.getD_none, u32D, u8D, iD, bD, strD, u32_xor, u32_or, u32_and, u32_add, u32_not, u32_shr, u32_shl, u8_u32, u32_u8, envOf, tyT, gtab]; exact rfl, ?_, ?_⟩
      · trivial
      · rw [unhex_yes (okAll_of h64 hok)]; exact Fin_pure rfl
end Go.Proofs.YtpibemolnjmgoaaDoor
