/- A sum's digits. -/
import Derived.Test.YtpibemolnjmgoaaDoorSq
namespace Go.Proofs.YtpibemolnjmgoaaDoor
set_option linter.unusedSimpArgs false
set_option linter.unusedVariables false
open Go.RowKit
def hexT : List UInt8 := [48, 49, 50, 51, 52, 53, 54, 55, 56, 57, 97, 98, 99, 100, 101, 102]
def hx (n : Nat) : UInt8 := hexT.getD n 0
def hiN (x : UInt8) : Nat := x.toNat / 16
def loN (x : UInt8) : Nat := x.toNat % 16
def hexP (h : List UInt8) : Nat → List UInt8
  | 0 => []
  | k + 1 => hexP h k ++ [hx (hiN (h.getD k 0)), hx (loN (h.getD k 0))]
theorem hexP_len (h : List UInt8) (k : Nat) : (hexP h k).length = 2 * k := by
  induction k with
  | zero => rfl
  | succ k ih => simp [hexP, ih]; omega
theorem hi_lt (x : UInt8) : hiN x < 16 := by have := x.toNat_lt; unfold hiN; omega
theorem lo_lt (x : UInt8) : loN x < 16 := by unfold loN; omega
theorem hi_e (x : UInt8) : (x.toNat : Int) / 2 ^ 4 = (hiN x : Int) := by unfold hiN; omega
theorem lo_e (x : UInt8) : ((x.toNat &&& 15 : Nat) : Int) = (loN x : Int) := by
  have : x.toNat &&& 15 = x.toNat % 2 ^ 4 := Nat.and_two_pow_sub_one_eq_mod x.toNat 4
  unfold loN
  omega
theorem hx_e (n : Nat) : ([48, 49, 50, 51, 52, 53, 54, 55, 56, 57, 97, 98, 99, 100, 101, 102] : List UInt8).getD n 0 = hx n := rfl
theorem row_u8 {l : List UInt8} {n : Nat} : ∀ d ∈ (l.map byteD).take n, isU8 d := fun d hd => by
  obtain ⟨x, _, rfl⟩ := List.mem_map.1 (List.mem_of_mem_take hd)
  trivial
theorem row_back {l : List UInt8} {n : Nat} (h : l.length ≤ n) : ((l.map byteD).take n).map byteOf = l := by
  rw [List.take_of_length_le (by simpa using h), List.map_map]
  conv => rhs; rw [← List.map_id l]
  exact List.map_congr_left fun x _ => byteOf_u8 x
set_option maxHeartbeats 2000000 in
theorem hex_c (h : List UInt8) : PC (envOf Tryd.prog) 18 [hashD h] (strD (hexP h 32)) := by
  have hh : hashD h = .arr .u8 32 (fun i => ((h.getD i 0).toNat : Int)) := rfl
  have hX := and_true; refine PC_at Tryd.func18 rfl Tryd.ntmps18 Tryd.results18 rfl rfl (by simp only [argsL, Nat.reduceAdd, u32D, u8D, iD, bD, strD, u32_xor, u32_or, u32_and, u32_add, u32_not, u32_shr, u32_shl, u8_u32, u32_u8]; exact rfl) ?_; intro w0 A
  have hX := And.intro hh (and_true)
  (repeat refine DW_seq ?_); refine DW_reg ?_; (repeat (first | (refine DR_q1 _ rfl rfl rfl ?_) | (refine DR_call1 _ (envC _ _ _ _ _) rfl rfl rfl rfl rfl ?_ (hc := by first | fail)) | (refine DR_e1 rfl (DO_alloc rfl rfl rfl) ?_) | (refine DR_e1 rfl (DO_box1 rfl rfl) ?_) | (refine DR_e1 rfl (DO_store1 rfl rfl) ?_) | (refine DR_g1 rfl rfl ?_) | (refine DR_skip1 rfl rfl rfl rfl ?_) | (refine DR_eqa1 _ rfl rfl rfl rfl ?_) | (refine DR_q2 _ rfl rfl rfl ?_))); (refine DR_nil ?_; refine DW_drop1 [1] ?_)
  (repeat refine DW_seq ?_); refine DW_reg ?_; (repeat (first | (refine DR_q1 _ rfl rfl rfl ?_) | (refine DR_call1 _ (envC _ _ _ _ _) rfl rfl rfl rfl rfl ?_ (hc := by first | fail)) | (refine DR_e1 rfl (DO_alloc rfl rfl rfl) ?_) | (refine DR_e1 rfl (DO_box1 rfl rfl) ?_) | (refine DR_e1 rfl (DO_store1 rfl rfl) ?_) | (refine DR_g1 rfl rfl ?_) | (refine DR_skip1 rfl rfl rfl rfl ?_) | (refine DR_eqa1 _ rfl rfl rfl rfl ?_) | (refine DR_q2 _ rfl rfl rfl ?_))); (refine DR_nil ?_; refine DW_drop1 [1, 3] ?_)
  (repeat refine DW_seq ?_); refine DW_reg ?_; (repeat (first | (refine DR_q1 _ rfl rfl rfl ?_) | (refine DR_call1 _ (envC _ _ _ _ _) rfl rfl rfl rfl rfl ?_ (hc := by first | fail)) | (refine DR_e1 rfl (DO_alloc rfl rfl rfl) ?_) | (refine DR_e1 rfl (DO_box1 rfl rfl) ?_) | (refine DR_e1 rfl (DO_store1 rfl rfl) ?_) | (refine DR_g1 rfl rfl ?_) | (refine DR_skip1 rfl rfl rfl rfl ?_) | (refine DR_eqa1 _ rfl rfl rfl rfl ?_) | (refine DR_q2 _ rfl rfl rfl ?_))); (refine DR_nil ?_; refine DW_drop1 [3, 6, 7] ?_)
  (repeat refine DW_seq ?_); refine DW_block ?_
  refine DW_weak (Weak.nil_own 3 5 1 rfl) ?_
  refine DW_loop (fun m st => ∃ k, k + m = 32 ∧ st = mk [(3, .own 1 (2 * k) 5 1), (6, hashD h), (7, iD (k : Int))] [some (.one (hashD h)), some (.row ((hexP h k).map byteD) 5 1)]) 32 ⟨_, Weak.pick [3, 6, 7], 0, by omega, ?_⟩ ?_
  · rfl
  rintro m _ ⟨k, hk, rfl⟩
  (repeat refine DW_seq ?_); refine DW_reg ?_; (repeat (first | (refine DR_q1 _ rfl rfl rfl ?_) | (refine DR_call1 _ (envC _ _ _ _ _) rfl rfl rfl rfl rfl ?_ (hc := by first | fail)) | (refine DR_e1 rfl (DO_alloc rfl rfl rfl) ?_) | (refine DR_e1 rfl (DO_box1 rfl rfl) ?_) | (refine DR_e1 rfl (DO_store1 rfl rfl) ?_) | (refine DR_g1 rfl rfl ?_) | (refine DR_skip1 rfl rfl rfl rfl ?_) | (refine DR_eqa1 _ rfl rfl rfl rfl ?_) | (refine DR_q2 _ rfl rfl rfl ?_))); (refine DR_nil ?_; refine DW_drop1 [3, 6, 7, 8] ?_)
  (repeat refine DW_seq ?_); (repeat refine DW_seq ?_); refine DW_cond (by simp only [evD, mk, look, reduceIte, Nat.reduceEqDiff]; exact rfl) ?_ ?_
  · intro hc
    have hk32 : k < 32 := by have := of_decide_eq_true hc; omega
    (repeat refine DW_seq ?_); refine DW_skip ?_
    refine DW_drop1 [3, 6, 7] ?_
    (repeat refine DW_seq ?_); refine DW_block ?_
    (repeat refine DW_seq ?_); refine DW_reg ?_; (repeat (first | (refine DR_q1 _ rfl rfl rfl ?_) | (refine DR_call1 _ (envC _ _ _ _ _) rfl rfl rfl rfl rfl ?_ (hc := by first | fail)) | (refine DR_e1 rfl (DO_alloc rfl rfl rfl) ?_) | (refine DR_e1 rfl (DO_box1 rfl rfl) ?_) | (refine DR_e1 rfl (DO_store1 rfl rfl) ?_) | (refine DR_g1 rfl rfl ?_) | (refine DR_skip1 rfl rfl rfl rfl ?_) | (refine DR_eqa1 _ rfl rfl rfl rfl ?_) | (refine DR_q2 _ rfl rfl rfl ?_))); (refine DR_nil ?_; refine DW_drop1 [3, 5, 6, 7] ?_)
    generalize hx0 : h.getD k 0 = x
    have hl := hexP_len h k
    have h1 := hi_lt x
    have h2 := lo_lt x
    have e1 := hi_e x
    have e2 := lo_e x
    have hX := And.intro hh (And.intro e1 (And.intro e2 (And.intro hx_e (hl))))
    (repeat refine DW_seq ?_); refine DW_drw 8 (by kernel_rfl) ?_; simp only [List.take, List.drop]; (repeat (first | (refine DRq_q1 _ rfl rfl rfl ?_) | (refine DRq_call1 _ (envC _ _ _ _ _) rfl rfl rfl rfl rfl ?_ (hc := by first | fail)) | (refine DRq_g1 rfl rfl ?_) | (refine DRq_skip1 rfl rfl rfl rfl ?_) | (refine DRq_eqa1 _ rfl rfl rfl rfl ?_) | (refine DRq_q2 _ rfl rfl rfl ?_)))
    refine DRq_nil ?_
    (refine DR_e1 rfl (DO_append3 rfl rfl ⟨⟨_, _, _, rfl⟩, rfl, ⟨_, rfl, rfl⟩, rfl, by decide⟩ rfl) ?_); (repeat (first | (refine DR_q1 _ rfl rfl rfl ?_) | (refine DR_call1 _ (envC _ _ _ _ _) rfl rfl rfl rfl rfl ?_ (hc := by first | fail)) | (refine DR_e1 rfl (DO_alloc rfl rfl rfl) ?_) | (refine DR_e1 rfl (DO_box1 rfl rfl) ?_) | (refine DR_e1 rfl (DO_store1 rfl rfl) ?_) | (refine DR_g1 rfl rfl ?_) | (refine DR_skip1 rfl rfl rfl rfl ?_) | (refine DR_eqa1 _ rfl rfl rfl rfl ?_) | (refine DR_q2 _ rfl rfl rfl ?_))); (refine DR_nil ?_; refine DW_drop1 [3, 6, 7] ?_)
    refine DW_reg ?_; (repeat (first | (refine DR_q1 _ rfl rfl rfl ?_) | (refine DR_call1 _ (envC _ _ _ _ _) rfl rfl rfl rfl rfl ?_ (hc := by first | fail)) | (refine DR_e1 rfl (DO_alloc rfl rfl rfl) ?_) | (refine DR_e1 rfl (DO_box1 rfl rfl) ?_) | (refine DR_e1 rfl (DO_store1 rfl rfl) ?_) | (refine DR_g1 rfl rfl ?_) | (refine DR_skip1 rfl rfl rfl rfl ?_) | (refine DR_eqa1 _ rfl rfl rfl rfl ?_) | (refine DR_q2 _ rfl rfl rfl ?_))); refine DR_nil ?_
    refine ⟨_, m - 1, Weak.pick [3, 6, 7], by omega, k + 1, by omega, ?_⟩
    refine pk1 ?_
    subst hx0
    simp [hexP, byteD, hashD, Nat.mul_add, iD]
  · intro hc
    have hk32 : k = 32 := by have := of_decide_eq_false hc; omega
    subst hk32
    refine DW_exit ?_
    refine DW_drop1 [3] ?_
    (repeat refine DW_seq ?_); refine DW_reg ?_; (repeat (first | (refine DR_q1 _ rfl rfl rfl ?_) | (refine DR_call1 _ (envC _ _ _ _ _) rfl rfl rfl rfl rfl ?_ (hc := by first | fail)) | (refine DR_e1 rfl (DO_alloc rfl rfl rfl) ?_) | (refine DR_e1 rfl (DO_box1 rfl rfl) ?_) | (refine DR_e1 rfl (DO_store1 rfl rfl) ?_) | (refine DR_g1 rfl rfl ?_) | (refine DR_skip1 rfl rfl rfl rfl ?_) | (refine DR_eqa1 _ rfl rfl rfl rfl ?_) | (refine DR_q2 _ rfl rfl rfl ?_))); (refine DR_q1 _ rfl rfl rfl ?_ (hp := by exact ⟨by simp [hexP_len], row_u8⟩)); (repeat (first | (refine DR_q1 _ rfl rfl rfl ?_) | (refine DR_call1 _ (envC _ _ _ _ _) rfl rfl rfl rfl rfl ?_ (hc := by first | fail)) | (refine DR_e1 rfl (DO_alloc rfl rfl rfl) ?_) | (refine DR_e1 rfl (DO_box1 rfl rfl) ?_) | (refine DR_e1 rfl (DO_store1 rfl rfl) ?_) | (refine DR_g1 rfl rfl ?_) | (refine DR_skip1 rfl rfl rfl rfl ?_) | (refine DR_eqa1 _ rfl rfl rfl rfl ?_) | (refine DR_q2 _ rfl rfl rfl ?_))); (refine DR_nil ?_; refine DW_drop1 [2] ?_)
    (repeat refine DW_seq ?_); refine DW_ret ?_; refine ⟨_, _, by simp only [outD, resD, outV, unlist, List.all, noTup, byteD, implies_true, setD, bslF, buildF, buildL, List.zip_cons_cons, List.zip_nil_right, List.zip_nil_left, pureD, rng0, rng1, rng2, rng3, rng4, rng5, rng6, rng7, rng8, List.getD_cons_zero, List.getD_cons_succ, Nat.reduceLeDiff, decide_true, decide_false, List.all_cons, List.all_nil, dqF, nilF, callQ, argsD, Op.operands, Call.operands, evD, cD, gip, upd, look, List.map, List.map_cons, List.map_nil, binF, binI, shI, binS, unF, wD, kLo, kHi, kMod, kBits, convF, loadF, fieldF, faddrF, indexF, iaddrF, lenF, lenD, sliceF, sliceD, cutL, bndF, sub, nc, aggT, aggB, scB, tnth, elems, L_B, L_mk, List.getElem?_cons_zero, List.getElem?_cons_succ, reduceIte, reduceCtorEq, Option.isSome, List.toList_toArray, Nat.reduceAdd, Nat.reduceSub, Nat.reduceMul, Nat.reduceEqDiff, Nat.reduceLT, Nat.reduceBEq, mkF, Bool.and_true, Bool.true_and, Bool.and_false, Bool.false_and, beq_self_eq_true, mkC, Int.reduceToNat, Int.toNat_natCast, Int.reduceAdd, Int.reduceSub, Int.reduceMul, Nat.zero_add, Nat.add_zero, Nat.mul_one, and_true, true_and, Option.getD_some, Option.getD_none, u32D, u8D, iD, bD, strD, u32_xor, u32_or, u32_and, u32_add, u32_not, u32_shr, u32_shl, u8_u32, u32_u8, envOf, tyT, gtab]; exact rfl, ?_, ?_⟩
    · trivial
    · rw [row_back (by rw [hexP_len]; omega)]; exact Fin_pure rfl
end Go.Proofs.YtpibemolnjmgoaaDoor
