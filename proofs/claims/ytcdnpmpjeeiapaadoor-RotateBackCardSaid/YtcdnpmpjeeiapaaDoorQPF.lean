/- The sum of bytes: the document. The two sums are one: plain. Middle of a sum. Two sums, computed. -/
import Derived.Test.YtcdnpmpjeeiapaaDoorQPE
import Derived.Test.YtcdnpmpjeeiapaaDoorQPD
set_option linter.unusedSimpArgs false
set_option linter.unusedVariables false
set_option maxRecDepth 10000
namespace Go.Proofs.YtcdnpmpjeeiapaaDoor
open Go.RowKit
def hg (V : Nat → UInt32) (k : Nat) : Nat → Int := fun j => if j < k then ((hb V j).toNat : Int) else 0

theorem jx0 (l : List UInt8) : (sumP l).length = 32 := by simp [sumP, sumB]
theorem qu9 (x : UInt8) : ji4 (.v (.int .u8 (x.toNat : Int))) = x := by simp [ji4]
theorem qv0 (h : List UInt8) (n : Nat) (hn : n ≤ h.length) : ((List.range n).map fun i => D.v (.int .u8 ((h.getD (0 + i) 0).toNat : Int))).map ji4 = h.take n := by
  apply List.ext_getElem
  · simp; omega
  · intro i h1 h2
    simp only [List.getElem_map, List.getElem_range, qu9, Nat.zero_add, List.getElem_take]
    have : i < h.length := by simp at h2; omega
    simp [List.getD_eq_getElem?_getD, this]
set_option maxHeartbeats 1000000 in
theorem vu2 (l : List UInt8) (hl : l.length ≤ 1048576) : PC (jb8 Tryd.prog) 146 [strD l] (strD ((sumP l).take 16)) := by
  have hX := and_true; refine kn7 Tryd.func146 rfl Tryd.ntmps146 Tryd.results146 rfl rfl (by simp only [jb5, Nat.reduceAdd, u32D, u8D, iD, bD, strD, ja6, jb1, ja5, ja3, ja4, ja2, ja1, jb2, jb0]; exact rfl) ?_; intro w0 A
  (repeat refine jc8 ?_); refine jd8 ?_; (repeat (first | (refine je2 _ rfl rfl rfl ?_) | (refine jd1 _ (envC _ _ _ _ _) rfl rfl rfl rfl rfl ?_ (hc := by first | exact kj1 l hl)) | (refine jb7 rfl (jc9 rfl rfl rfl) ?_) | (refine jb7 rfl (jd4 rfl rfl) ?_) | (refine jb7 rfl (jc6 rfl rfl) ?_) | (refine jf1 rfl rfl ?_) | (refine jd0 rfl rfl rfl rfl ?_) | (refine jd3 _ rfl rfl rfl rfl ?_) | (refine jf0 _ rfl rfl rfl ?_))); (refine jb4 ?_; refine jc7 [0] ?_)
  (repeat refine jc8 ?_); refine jd8 ?_; (repeat (first | (refine je2 _ rfl rfl rfl ?_) | (refine jd1 _ (envC _ _ _ _ _) rfl rfl rfl rfl rfl ?_ (hc := by first | exact kj1 l hl)) | (refine jb7 rfl (jc9 rfl rfl rfl) ?_) | (refine jb7 rfl (jd4 rfl rfl) ?_) | (refine jb7 rfl (jc6 rfl rfl) ?_) | (refine jf1 rfl rfl ?_) | (refine jd0 rfl rfl rfl rfl ?_) | (refine jd3 _ rfl rfl rfl rfl ?_) | (refine jf0 _ rfl rfl rfl ?_))); (refine jb4 ?_; refine jc7 [3] ?_)
  (repeat refine jc8 ?_); refine jd8 ?_; (repeat (first | (refine je2 _ rfl rfl rfl ?_) | (refine jd1 _ (envC _ _ _ _ _) rfl rfl rfl rfl rfl ?_ (hc := by first | exact kj1 l hl)) | (refine jb7 rfl (jc9 rfl rfl rfl) ?_) | (refine jb7 rfl (jd4 rfl rfl) ?_) | (refine jb7 rfl (jc6 rfl rfl) ?_) | (refine jf1 rfl rfl ?_) | (refine jd0 rfl rfl rfl rfl ?_) | (refine jd3 _ rfl rfl rfl rfl ?_) | (refine jf0 _ rfl rfl rfl ?_))); (refine jb4 ?_; refine jc7 [2] ?_)
  (repeat refine jc8 ?_); refine ka1 ?_; refine ⟨_, _, by simp only [outD, resD, outV, ja8, List.all, jk9, jc1, implies_true, setD, bslF, je9, je1, List.zip_cons_cons, List.zip_nil_right, List.zip_nil_left, jc2, rng0, rng1, rng2, rng3, rng4, rng5, rng6, rng7, rng8, List.getD_cons_zero, List.getD_cons_succ, Nat.reduceLeDiff, decide_true, decide_false, List.all_cons, List.all_nil, dqF, nilF, jf9, jc5, Op.operands, Call.operands, evD, cD, gip, upd, look, List.map, List.map_cons, List.map_nil, binF, binI, shI, binS, unF, wD, kLo, kHi, kMod, jf8, jf5, jf6, je8, je7, je6, je5, lenF, lenD, je3, jd9, minF, je0, cutL, bndF, sub, nc, aggT, aggB, scB, tnth, elems, L_B, L_mk, List.getElem?_cons_zero, List.getElem?_cons_succ, reduceIte, reduceCtorEq, Option.isSome, List.toList_toArray, Nat.reduceAdd, Nat.reduceSub, Nat.reduceMul, Nat.reduceEqDiff, Nat.reduceLT, Nat.reduceBEq, mkF, mkG, Bool.and_true, Bool.true_and, Bool.and_false, Bool.false_and, beq_self_eq_true, mkC, Int.reduceToNat, Int.toNat_natCast, Int.reduceAdd, Int.reduceSub, Int.reduceMul, Nat.zero_add, Nat.add_zero, Nat.mul_one, and_true, true_and, Option.getD_some, Option.getD_none, u32D, u8D, iD, bD, strD, ja6, jb1, ja5, ja3, ja4, ja2, ja1, jb2, jb0, jb8, tyT, gtab]; exact rfl, ?_, ?_⟩
  · trivial
  · rw [← qv0 _ 16 (by rw [jx0]; omega)]; exact ja7 rfl

theorem vn1 (h : List UInt8) (n : Nat) (hn : n ≤ h.length) : ((List.range n).map fun i => D.v (.int .u8 ((h.getD i 0).toNat : Int))).map ji4 = h.take n := by
  have := qv0 h n hn
  simpa only [Nat.zero_add] using this
end Go.Proofs.YtcdnpmpjeeiapaaDoor
