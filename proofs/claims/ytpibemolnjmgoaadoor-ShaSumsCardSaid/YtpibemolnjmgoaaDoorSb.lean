/- A sum's bytes. -/
import Derived.Test.YtpibemolnjmgoaaDoorSs
namespace Go.Proofs.YtpibemolnjmgoaaDoor
set_option linter.unusedSimpArgs false
set_option linter.unusedVariables false
open Go.RowKit
def hb (V : Nat → UInt32) (j : Nat) : UInt8 := (V (j / 4) >>> UInt32.ofNat (24 - 8 * (j % 4))).toUInt8
def sumB (V : Nat → UInt32) : List UInt8 := (List.range 32).map (hb V)
def hashD (h : List UInt8) : D := .arr .u8 32 (fun i => ((h.getD i 0).toNat : Int))
def hf (V : Nat → UInt32) (k : Nat) : Nat → Int := fun j => if j < 4 * k then ((hb V j).toNat : Int) else 0
theorem sumB_at (V : Nat → UInt32) (i : Nat) (h : i < 32) : (sumB V).getD i 0 = hb V i := by simp [sumB, List.getD_eq_getElem?_getD, h]
theorem hf_succ (V : Nat → UInt32) (k : Nat) : updI (updI (updI (updI (hf V k) (4 * k) ((V k >>> UInt32.ofNat 24).toUInt8.toNat : Int)) (4 * k + 1) ((V k >>> UInt32.ofNat 16).toUInt8.toNat : Int)) (4 * k + 2) ((V k >>> UInt32.ofNat 8).toUInt8.toNat : Int)) (4 * k + 3) ((V k).toUInt8.toNat : Int) = hf V (k + 1) := by
  funext j
  unfold updI hf
  by_cases h0 : j = 4 * k
  · subst h0
    rw [if_neg (by omega), if_neg (by omega), if_neg (by omega), if_pos rfl, if_pos (by omega)]
    simp [hb]
  by_cases h1 : j = 4 * k + 1
  · subst h1
    rw [if_neg (by omega), if_neg (by omega), if_pos rfl, if_pos (by omega)]
    simp only [hb, show (4 * k + 1) / 4 = k by omega, show (4 * k + 1) % 4 = 1 by omega]
  by_cases h2 : j = 4 * k + 2
  · subst h2
    rw [if_neg (by omega), if_pos rfl, if_pos (by omega)]
    simp only [hb, show (4 * k + 2) / 4 = k by omega, show (4 * k + 2) % 4 = 2 by omega]
  by_cases h3 : j = 4 * k + 3
  · subst h3
    rw [if_pos rfl, if_pos (by omega)]
    simp only [hb, show (4 * k + 3) / 4 = k by omega, show (4 * k + 3) % 4 = 3 by omega]
    simp
  by_cases h4 : j < 4 * k
  · rw [if_neg h3, if_neg h2, if_neg h1, if_neg h0, if_pos h4, if_pos (by omega)]
  · rw [if_neg h3, if_neg h2, if_neg h1, if_neg h0, if_neg h4, if_neg (by omega)]
theorem LeP_arr {k : IntKind} {n : Nat} {f g : Nat → Int} (hfg : ∀ i, i < n → f i = g i) : LeP (.arr k n f) (.arr k n g) := by
  intro C h w bs x hw hx
  obtain ⟨cs, e1, e2, e3⟩ := hx
  refine ⟨cs, e1, e2, fun i hi => ?_⟩
  have h1 := (e3 i hi).pure rfl
  simp only [cell] at h1 ⊢
  rw [← hfg i (by omega)]
  exact h1

set_option maxHeartbeats 4000000 in
theorem bytes_c (V : Nat → UInt32) : PM (envOf Tryd.prog) 32 (sumD V) [] (sumD V) (hashD (sumB V)) := by
  have hX := and_true; refine PM_at Tryd.func32 rfl Tryd.ntmps32 Tryd.results32 rfl rfl (by simp only [argsL, Nat.reduceAdd, u32D, u8D, iD, bD, strD, u32_xor, u32_or, u32_and, u32_add, u32_not, u32_shr, u32_shl, u8_u32, u32_u8]; exact rfl) ?_; intro w0 A b0
  have hX := And.intro sumD_eq (vf_at)
  (repeat refine DW_seq ?_); refine DW_reg ?_; (repeat (first | (refine DR_q1 _ rfl rfl rfl ?_) | (refine DR_call1 _ (envF _ _ _ _ _) rfl rfl rfl rfl rfl ?_ (hc := by first | fail)) | (refine DR_e1 rfl (DO_alloc rfl rfl rfl) ?_) | (refine DR_e1 rfl (DO_box1 rfl rfl) ?_) | (refine DR_e1 rfl (DO_store1 rfl rfl) ?_) | (refine DR_g1 rfl rfl ?_) | (refine DR_skip1 rfl rfl rfl rfl ?_) | (refine DR_eqa1 _ rfl rfl rfl rfl ?_) | (refine DR_q2 _ rfl rfl rfl ?_))); (refine DR_nil ?_; refine DW_drop1 [0, 2] ?_)
  (repeat refine DW_seq ?_); refine DW_reg ?_; (repeat (first | (refine DR_q1 _ rfl rfl rfl ?_) | (refine DR_call1 _ (envF _ _ _ _ _) rfl rfl rfl rfl rfl ?_ (hc := by first | fail)) | (refine DR_e1 rfl (DO_alloc rfl rfl rfl) ?_) | (refine DR_e1 rfl (DO_box1 rfl rfl) ?_) | (refine DR_e1 rfl (DO_store1 rfl rfl) ?_) | (refine DR_g1 rfl rfl ?_) | (refine DR_skip1 rfl rfl rfl rfl ?_) | (refine DR_eqa1 _ rfl rfl rfl rfl ?_) | (refine DR_q2 _ rfl rfl rfl ?_))); (refine DR_nil ?_; refine DW_drop1 [0, 2, 3] ?_)
  (repeat refine DW_seq ?_); refine DW_reg ?_; (repeat (first | (refine DR_q1 _ rfl rfl rfl ?_) | (refine DR_call1 _ (envF _ _ _ _ _) rfl rfl rfl rfl rfl ?_ (hc := by first | fail)) | (refine DR_e1 rfl (DO_alloc rfl rfl rfl) ?_) | (refine DR_e1 rfl (DO_box1 rfl rfl) ?_) | (refine DR_e1 rfl (DO_store1 rfl rfl) ?_) | (refine DR_g1 rfl rfl ?_) | (refine DR_skip1 rfl rfl rfl rfl ?_) | (refine DR_eqa1 _ rfl rfl rfl rfl ?_) | (refine DR_q2 _ rfl rfl rfl ?_))); (refine DR_nil ?_; refine DW_drop1 [2, 3, 6, 7] ?_)
  (repeat refine DW_seq ?_); refine DW_block ?_
  refine DW_loop (fun m st => ∃ k, k + m = 8 ∧ st = mk [(2, .ptr 1 0), (3, .ptr 2 0), (6, .ptr 0 0), (7, iD (k : Int))] [some (.one (.arr .u32 8 (vf V))), some (.one (.arr .u8 32 (fun _ => 0))), some (.one (.arr .u8 32 (hf V k)))]) 8 ⟨_, Weak.refl _ _, 0, by omega, ?_⟩ ?_
  · have : hf V 0 = fun _ => 0 := by funext j; simp [hf]
    rw [this]
    rfl
  rintro m _ ⟨k, hk, rfl⟩
  (repeat refine DW_seq ?_); refine DW_reg ?_; (repeat (first | (refine DR_q1 _ rfl rfl rfl ?_) | (refine DR_call1 _ (envF _ _ _ _ _) rfl rfl rfl rfl rfl ?_ (hc := by first | fail)) | (refine DR_e1 rfl (DO_alloc rfl rfl rfl) ?_) | (refine DR_e1 rfl (DO_box1 rfl rfl) ?_) | (refine DR_e1 rfl (DO_store1 rfl rfl) ?_) | (refine DR_g1 rfl rfl ?_) | (refine DR_skip1 rfl rfl rfl rfl ?_) | (refine DR_eqa1 _ rfl rfl rfl rfl ?_) | (refine DR_q2 _ rfl rfl rfl ?_))); (refine DR_nil ?_; refine DW_drop1 [2, 3, 6, 7, 8] ?_)
  (repeat refine DW_seq ?_); refine DW_cond (by simp only [evD, mk, look, reduceIte, Nat.reduceEqDiff]; exact rfl) ?_ ?_
  · intro hc
    have hkl : k < 8 := by have := of_decide_eq_true hc; omega
    refine DW_skip ?_
    refine DW_drop1 [2, 3, 6, 7] ?_
    refine DW_seq ?_
    refine DW_block ?_
    (repeat refine DW_seq ?_); (repeat refine DW_seq ?_); refine DW_drwq (by kernel_rfl) ?_; (repeat (first | (refine DRq_q1 _ rfl rfl rfl ?_) | (refine DRq_call1 _ (envF _ _ _ _ _) rfl rfl rfl rfl rfl ?_ (hc := by first | fail)) | (refine DRq_g1 rfl rfl ?_) | (refine DRq_skip1 rfl rfl rfl rfl ?_) | (refine DRq_eqa1 _ rfl rfl rfl rfl ?_) | (refine DRq_q2 _ rfl rfl rfl ?_))); refine DRq_nil ?_; refine DW_drop1 [2, 3, 4, 5, 6, 7] ?_
    have e0 : (4 * (k : Int)).toNat = 4 * k := by omega
    have e1 : (4 * (k : Int) + 1).toNat = 4 * k + 1 := by omega
    have e2 : (4 * (k : Int) + 2).toNat = 4 * k + 2 := by omega
    have e3 : (4 * (k : Int) + 3).toNat = 4 * k + 3 := by omega
    have hX := And.intro e0 (And.intro e1 (And.intro e2 (And.intro e3 (sumD_eq))))
    (repeat refine DW_seq ?_); refine DW_reg ?_; (repeat (first | (refine DR_q1 _ rfl rfl rfl ?_) | (refine DR_call1 _ (envF _ _ _ _ _) rfl rfl rfl rfl rfl ?_ (hc := by first | fail)) | (refine DR_e1 rfl (DO_alloc rfl rfl rfl) ?_) | (refine DR_e1 rfl (DO_box1 rfl rfl) ?_) | (refine DR_e1 rfl (DO_store1 rfl rfl) ?_) | (refine DR_g1 rfl rfl ?_) | (refine DR_skip1 rfl rfl rfl rfl ?_) | (refine DR_eqa1 _ rfl rfl rfl rfl ?_) | (refine DR_q2 _ rfl rfl rfl ?_))); (refine DR_nil ?_; refine DW_drop1 [2, 3, 6, 7] ?_)
    have hX := And.intro vf_at (sumD_eq)
    refine DW_reg ?_; (repeat (first | (refine DR_q1 _ rfl rfl rfl ?_) | (refine DR_call1 _ (envF _ _ _ _ _) rfl rfl rfl rfl rfl ?_ (hc := by first | fail)) | (refine DR_e1 rfl (DO_alloc rfl rfl rfl) ?_) | (refine DR_e1 rfl (DO_box1 rfl rfl) ?_) | (refine DR_e1 rfl (DO_store1 rfl rfl) ?_) | (refine DR_g1 rfl rfl ?_) | (refine DR_skip1 rfl rfl rfl rfl ?_) | (refine DR_eqa1 _ rfl rfl rfl rfl ?_) | (refine DR_q2 _ rfl rfl rfl ?_))); refine DR_nil ?_
    refine ⟨_, m - 1, Weak.pick [2, 3, 6, 7], by omega, k + 1, by omega, ?_⟩
    refine pk1 ?_
    rw [← hf_succ]
    rfl
  · intro hc
    have hkl : k = 8 := by have := of_decide_eq_false hc; omega
    subst hkl
    refine DW_exit ?_
    refine DW_drop1 [2, 3] ?_
    (repeat refine DW_seq ?_); refine DW_reg ?_; (repeat (first | (refine DR_q1 _ rfl rfl rfl ?_) | (refine DR_call1 _ (envF _ _ _ _ _) rfl rfl rfl rfl rfl ?_ (hc := by first | fail)) | (refine DR_e1 rfl (DO_alloc rfl rfl rfl) ?_) | (refine DR_e1 rfl (DO_box1 rfl rfl) ?_) | (refine DR_e1 rfl (DO_store1 rfl rfl) ?_) | (refine DR_g1 rfl rfl ?_) | (refine DR_skip1 rfl rfl rfl rfl ?_) | (refine DR_eqa1 _ rfl rfl rfl rfl ?_) | (refine DR_q2 _ rfl rfl rfl ?_))); (refine DR_nil ?_; refine DW_drop1 [2] ?_)
    refine DW_ret ?_; refine ⟨_, _, by simp only [outD, resD, outV, unlist, List.all, noTup, byteD, implies_true, setD, bslF, buildF, buildL, List.zip_cons_cons, List.zip_nil_right, List.zip_nil_left, pureD, rng0, rng1, rng2, rng3, rng4, rng5, rng6, rng7, rng8, List.getD_cons_zero, List.getD_cons_succ, Nat.reduceLeDiff, decide_true, decide_false, List.all_cons, List.all_nil, dqF, nilF, callQ, argsD, Op.operands, Call.operands, evD, cD, gip, upd, look, List.map, List.map_cons, List.map_nil, binF, binI, shI, binS, unF, wD, kLo, kHi, kMod, kBits, convF, loadF, fieldF, faddrF, indexF, iaddrF, lenF, lenD, sliceF, sliceD, cutL, bndF, sub, nc, aggT, aggB, scB, tnth, elems, L_B, L_mk, List.getElem?_cons_zero, List.getElem?_cons_succ, reduceIte, reduceCtorEq, Option.isSome, List.toList_toArray, Nat.reduceAdd, Nat.reduceSub, Nat.reduceMul, Nat.reduceEqDiff, Nat.reduceLT, Nat.reduceBEq, mkF, Bool.and_true, Bool.true_and, Bool.and_false, Bool.false_and, beq_self_eq_true, mkC, Int.reduceToNat, Int.toNat_natCast, Int.reduceAdd, Int.reduceSub, Int.reduceMul, Nat.zero_add, Nat.add_zero, Nat.mul_one, and_true, true_and, Option.getD_some, Option.getD_none, u32D, u8D, iD, bD, strD, u32_xor, u32_or, u32_and, u32_add, u32_not, u32_shr, u32_shl, u8_u32, u32_u8, envOf, tyT]; exact rfl, ?_, rfl, rfl, ?_⟩
    · trivial
    · exact LeP_arr fun i hi => by rw [sumB_at V i hi]; exact if_pos (by omega)
end Go.Proofs.YtpibemolnjmgoaaDoor
