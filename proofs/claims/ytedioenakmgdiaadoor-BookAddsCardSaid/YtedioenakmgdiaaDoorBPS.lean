/- The document's ring signs; sums that bytes have. A signature of a key is verified. A signature of a key is verified, as the document says. -/
import Derived.Test.YtedioenakmgdiaaDoorBPD
import Derived.Test.YtedioenakmgdiaaDoorBPR
import Derived.Test.YtedioenakmgdiaaDoorBPO
namespace Go.Proofs.YtedioenakmgdiaaDoor
set_option linter.unusedSimpArgs false
set_option linter.unusedVariables false
set_option maxRecDepth 10000
open Go.RowKit
/-! ### sums that bytes have -/
def chunk32 (s : List UInt8) (j : Nat) : List (List UInt8) := (List.range j).map fun i => (s.drop (32 * i)).take 32
theorem chunk_len (s : List UInt8) (j : Nat) : (chunk32 s j).length = j := by simp [chunk32]
theorem chunk_succ (s : List UInt8) (j : Nat) : chunk32 s (j + 1) = chunk32 s j ++ [(s.drop (32 * j)).take 32] := by simp [chunk32, List.range_succ]
theorem chunk_all (s : List UInt8) (j : Nat) (h : s.length = 32 * j) : ∀ x ∈ chunk32 s j, x.length = 32 := by
  intro x hx
  simp only [chunk32, List.mem_map, List.mem_range] at hx
  obtain ⟨i, hi, rfl⟩ := hx
  simp; omega
set_option maxHeartbeats 8000000 in
theorem sums_c (s : List UInt8) (n : Nat) (hs : s.length = 32 * n) (hn : n ≤ 1000000) : PC (envOf Tryd.prog) 74 [strD s] (hsD (chunk32 s n)) := by
  have hh : ∀ h, hashD h = .arr .u8 32 (fun i => ((h.getD i 0).toNat : Int)) := fun _ => rfl
  have hX := and_true; refine PC_atX Tryd.func74 rfl Tryd.ntmps74 Tryd.results74 rfl (by simp only [argsL, Nat.reduceAdd, u32D, u8D, iD, bD, strD, u32_xor, u32_or, u32_and, u32_add, u32_not, u32_shr, u32_shl, u8_u32, u32_u8]; exact rfl) ?_; intro w0 A
  (repeat refine DX_seq ?_); refine rgx [0] ?_
  (repeat refine DX_seq ?_); refine rgx [0, 3] ?_
  (repeat refine DX_seq ?_); refine DX_block ?_
  refine DX_weak (fun _ _ _ _ => Weak.nil_own 3 24 32 rfl) ?_
  refine DX_loop (fun j _ st => ∃ k, k + j = n ∧ st = mk [(0, strD (s.drop (32 * k))), (3, .own 0 k 24 32)] [some (.row ((chunk32 s k).map hashD) 24 32)]) n ⟨_, WeakX.pick [0, 3], 0, by omega, ?_⟩ ?_
  · simp; rfl
  rintro j _ _ ⟨k, hk, rfl⟩
  have hdl : (s.drop (32 * k)).length = 32 * j := by rw [List.length_drop]; omega
  (repeat refine DX_seq ?_); refine rgx [0, 3, 7] ?_
  (repeat refine DX_seq ?_); refine ifx ?_ ?_
  · intro hc; (try simp only [hcs, ne_eq] at hc)
    have hj : 32 ≤ (s.drop (32 * k)).length := by omega
    have hcp := cpy_hash (s.drop (32 * k)) hj
    have hcl := chunk_len s k
    have hcs := chunk_succ s k
    have hdd : (s.drop (32 * k)).drop 32 = s.drop (32 * (k + 1)) := by rw [List.drop_drop]; congr 1
    generalize s.drop (32 * k) = rs at *
    (repeat refine DX_seq ?_); refine DX_skip ?_
    (repeat refine DX_seq ?_); refine DX_block ?_
    (repeat refine DX_seq ?_); refine rgx [0, 3, 4] ?_
    generalize List.take 32 rs = x at *
    have hX := And.intro hcl (And.intro hh (hdd))
    (repeat refine DX_seq ?_); refine DX_reg [0, 3, 4] ?_; intro w0 A S0 f0; iterate 3 ((with_reducible show DR _ _ _ (_ :: _) _); first | (refine cx _ (envG _ _ _ _ _ _) rfl rfl rfl rfl rfl ?_ (hc := by first | fail))  | (refine sx ?_))
    refine ex rfl (docopy1 32 rfl rfl rfl rfl rfl) ?_
    rw [hcp]
    (repeat ((with_reducible show DR _ _ _ (_ :: _) _); first | (refine cx _ (envG _ _ _ _ _ _) rfl rfl rfl rfl rfl ?_ (hc := by first | fail))  | (refine sx ?_))); refine DR_nil ?_; refine kl1 ?_
    (repeat refine DX_seq ?_); refine rgx [0, 3] ?_
    refine ⟨_, j - 1, WeakX.take 1 rfl rfl rfl, by omega, k + 1, by omega, ?_⟩
    rw [hcs]
    simp [strD, hh]
  · intro hc; (try simp only [hcs, ne_eq] at hc)
    obtain rfl : k = n := by omega
    have hcl := chunk_len s k
    (repeat refine DX_seq ?_); refine DX_exit ?_
    have hX := And.intro hsD_eq (and_true)
    (repeat refine DX_seq ?_); refine rgx [2] ?_
    (repeat refine DX_seq ?_); refine DX_ret ?_; refine retx ?_; (try dsimp only [outV, unlist])
    refine Fin_elems rfl (by simp only [elems, List.getElem?_cons_zero]; exact rfl) (by simp [hcl]) ?_ (fun _ => rfl)
    rw [List.take_of_length_le (by simp [hcl])]
end Go.Proofs.YtedioenakmgdiaaDoor

namespace Go.Proofs.YtedioenakmgdiaaDoor
set_option linter.unusedSimpArgs false
set_option linter.unusedVariables false
set_option maxRecDepth 10000
open Go.RowKit
/-- what a signature leads to -/
def verA (text sig : List UInt8) (m : Nat) : List UInt8 := climbP (chunk32 (sig.drop 1089) m) (sig.getD 0 0).toNat (recS text ((sig.take 1089).drop 1))
/-- whether a signature is right -/
def verS (root text sig : List UInt8) (m : Nat) : Int := if verA text sig m = root then 0 else 9
theorem recS_len (text sig : List UInt8) : (recS text sig).length = 32 := sumP_len _
theorem verA_len (text sig : List UInt8) (m : Nat) : (verA text sig m).length = 32 := climbP_len _ _ _ (recS_len _ _)
set_option maxHeartbeats 8000000 in
theorem verifyOk_c (root text sig : List UInt8) (m : Nat) (hr : root.length = 32) (hm : m ≤ 7) (hl : sig.length = 1089 + 32 * m) (hi : (sig.getD 0 0).toNat < 2 ^ m) (ht : text.length ≤ 1000000) :
    PC (envOf Tryd.prog) 35 [hashD root, iD (m : Int), strD text, strD sig] (iD (verS root text sig m)) := by
  have hh : ∀ h, hashD h = .arr .u8 32 (fun i => ((h.getD i 0).toNat : Int)) := fun _ => rfl
  have cp := placeOk_c m sig hm hl hi
  have h88 : ((sig.take 1089).drop 1).length = 1088 := by simp; omega
  have cr := recover_c text ((sig.take 1089).drop 1) ht
  unfold recD at cr
  rw [if_pos h88, if_pos h88] at cr
  have hdl : (sig.drop 1089).length = 32 * m := by simp; omega
  have cs := sums_c (sig.drop 1089) m hdl (by omega)
  have hcl := chunk_len (sig.drop 1089) m
  have cc := climbOk_c (recS text ((sig.take 1089).drop 1)) (chunk32 (sig.drop 1089) m) (sig.getD 0 0).toNat (recS_len _ _) (by omega) (by rw [hcl]; exact hi) (chunk_all _ _ hdl)
  have hal := verA_len text sig m
  have hv : climbP (chunk32 (sig.drop 1089) m) (sig.getD 0 0).toNat (recS text ((sig.take 1089).drop 1)) = verA text sig m := rfl
  rw [hv] at cc
  have hq := hash_eq hal hr
  unfold verS
  unfold plD at cp
  unfold heD at cc
  generalize verA text sig m = at0 at *
  generalize chunk32 (sig.drop 1089) m = ch at *
  generalize recS text ((sig.take 1089).drop 1) = lf at *
  generalize (sig.getD 0 0).toNat = ix at *
  by_cases hab : at0 = root
  · rw [if_pos hab]
    rw [decide_eq_true hab] at hq
    clear hab hv
    have hX := and_true; refine PC_atX Tryd.func35 rfl Tryd.ntmps35 Tryd.results35 rfl (by simp only [argsL, Nat.reduceAdd, u32D, u8D, iD, bD, strD, u32_xor, u32_or, u32_and, u32_add, u32_not, u32_shr, u32_shl, u8_u32, u32_u8]; exact rfl) ?_; intro w0 A
    have hX := And.intro hsD_eq (And.intro hh (hq))
    have hK := And.intro (cp) (And.intro (cr) (And.intro (cs) (And.intro (cc) trivial))); (repeat refine DX_seq ?_); refine rgx [1, 2, 3, 4] ?_
    (repeat refine DX_seq ?_); refine rgx [2, 3, 4, 9, 10] ?_
    (repeat refine DX_seq ?_); refine rgx [2, 3, 4, 9, 10, 20] ?_
    (repeat refine DX_seq ?_); refine iffx ?_
    (repeat refine DX_seq ?_); refine DX_skip ?_
    (repeat refine DX_seq ?_); refine rgx [3, 4, 9, 10, 11] ?_
    (repeat refine DX_seq ?_); refine rgx [3, 4, 9, 10, 11, 30] ?_
    (repeat refine DX_seq ?_); refine iffx ?_
    (repeat refine DX_seq ?_); refine DX_skip ?_
    (repeat refine DX_seq ?_); refine DX_drwA [4, 10, 12] 7 rfl rfl rfl rfl rfl rfl rfl rfl rfl rfl rfl rfl (by kernel_rfl) rfl (by kernel_rfl) ?_; intro w0 A S0 f0; simp only [List.take, List.drop]; (repeat ((with_reducible show DRq2 _ _ _ (_ :: _) _); first | (refine qx2 _ rfl rfl rfl ?_) | (refine cx2 _ (envG _ _ _ _ _ _) rfl rfl rfl rfl rfl ?_ (hc := by first | exact cp | exact cr | exact cs | exact cc)))); refine endq2 _ _ _ ?_; (repeat ((with_reducible show DR _ _ _ (_ :: _) _); first | (refine cx _ (envG _ _ _ _ _ _) rfl rfl rfl rfl rfl ?_ (hc := by first | exact cp | exact cr | exact cs | exact cc))  | (refine sx ?_))); refine DR_nil ?_; refine kl1 ?_
    (repeat refine DX_seq ?_); refine rggx [47] ?_
    (repeat refine DX_seq ?_); refine iffx ?_
    (repeat refine DX_seq ?_); refine DX_skip ?_
    (repeat refine DX_seq ?_); refine rgx [8] ?_
    (repeat refine DX_seq ?_); refine DX_ret ?_; refine retx ?_; (try dsimp only [outV, unlist])
    exact Fin_pure rfl
  · rw [if_neg hab]
    rw [decide_eq_false hab] at hq
    clear hab hv
    have hX := and_true; refine PC_atX Tryd.func35 rfl Tryd.ntmps35 Tryd.results35 rfl (by simp only [argsL, Nat.reduceAdd, u32D, u8D, iD, bD, strD, u32_xor, u32_or, u32_and, u32_add, u32_not, u32_shr, u32_shl, u8_u32, u32_u8]; exact rfl) ?_; intro w0 A
    have hX := And.intro hsD_eq (And.intro hh (hq))
    have hK := And.intro (cp) (And.intro (cr) (And.intro (cs) (And.intro (cc) trivial))); (repeat refine DX_seq ?_); refine rgx [1, 2, 3, 4] ?_
    (repeat refine DX_seq ?_); refine rgx [2, 3, 4, 9, 10] ?_
    (repeat refine DX_seq ?_); refine rgx [2, 3, 4, 9, 10, 20] ?_
    (repeat refine DX_seq ?_); refine iffx ?_
    (repeat refine DX_seq ?_); refine DX_skip ?_
    (repeat refine DX_seq ?_); refine rgx [3, 4, 9, 10, 11] ?_
    (repeat refine DX_seq ?_); refine rgx [3, 4, 9, 10, 11, 30] ?_
    (repeat refine DX_seq ?_); refine iffx ?_
    (repeat refine DX_seq ?_); refine DX_skip ?_
    (repeat refine DX_seq ?_); refine DX_drwA [4, 10, 12] 7 rfl rfl rfl rfl rfl rfl rfl rfl rfl rfl rfl rfl (by kernel_rfl) rfl (by kernel_rfl) ?_; intro w0 A S0 f0; simp only [List.take, List.drop]; (repeat ((with_reducible show DRq2 _ _ _ (_ :: _) _); first | (refine qx2 _ rfl rfl rfl ?_) | (refine cx2 _ (envG _ _ _ _ _ _) rfl rfl rfl rfl rfl ?_ (hc := by first | exact cp | exact cr | exact cs | exact cc)))); refine endq2 _ _ _ ?_; (repeat ((with_reducible show DR _ _ _ (_ :: _) _); first | (refine cx _ (envG _ _ _ _ _ _) rfl rfl rfl rfl rfl ?_ (hc := by first | exact cp | exact cr | exact cs | exact cc))  | (refine sx ?_))); refine DR_nil ?_; refine kl1 ?_
    (repeat refine DX_seq ?_); refine rggx [47] ?_
    (repeat refine DX_seq ?_); refine iftx ?_
    (repeat refine DX_seq ?_); refine rgx [8] ?_
    (repeat refine DX_seq ?_); refine DX_ret ?_; refine retx ?_; (try dsimp only [outV, unlist])
    exact Fin_pure rfl
theorem verifyNo_c (root text sig : List UInt8) (n : Int) (hbad : badP n sig) :
    PC (envOf Tryd.prog) 35 [hashD root, iD n, strD text, strD sig] (iD 2) := by
  have hh : ∀ h, hashD h = .arr .u8 32 (fun i => ((h.getD i 0).toNat : Int)) := fun _ => rfl
  have cp := placeNo_c n sig hbad
  unfold plN at cp
  have hX := and_true; refine PC_atX Tryd.func35 rfl Tryd.ntmps35 Tryd.results35 rfl (by simp only [argsL, Nat.reduceAdd, u32D, u8D, iD, bD, strD, u32_xor, u32_or, u32_and, u32_add, u32_not, u32_shr, u32_shl, u8_u32, u32_u8]; exact rfl) ?_; intro w0 A
  have hX := And.intro hh (and_true)
  have hK := And.intro (cp) trivial; (repeat refine DX_seq ?_); refine rgx [1, 2, 3, 4] ?_
  (repeat refine DX_seq ?_); refine rgx [2, 3, 4, 9, 10] ?_
  (repeat refine DX_seq ?_); refine rgx [2, 3, 4, 9, 10, 20] ?_
  (repeat refine DX_seq ?_); refine iftx ?_
  (repeat refine DX_seq ?_); refine rgx [8] ?_
  (repeat refine DX_seq ?_); refine DX_ret ?_; refine retx ?_; (try dsimp only [outV, unlist])
  exact Fin_pure rfl
theorem refverifyNo_c (root text sig : List UInt8) (n : Int) (hbad : badP n sig) :
    PC (envOf Tryd.prog) 36 [hashD root, iD n, strD text, strD sig] (iD 2) := by
  have hh : ∀ h, hashD h = .arr .u8 32 (fun i => ((h.getD i 0).toNat : Int)) := fun _ => rfl
  have cp := refplaceNo_c n sig hbad
  unfold plN at cp
  have hX := and_true; refine PC_atX Tryd.func36 rfl Tryd.ntmps36 Tryd.results36 rfl (by simp only [argsL, Nat.reduceAdd, u32D, u8D, iD, bD, strD, u32_xor, u32_or, u32_and, u32_add, u32_not, u32_shr, u32_shl, u8_u32, u32_u8]; exact rfl) ?_; intro w0 A
  have hX := And.intro hh (and_true)
  have hK := And.intro (cp) trivial; (repeat refine DX_seq ?_); refine rgx [1, 2, 3, 4] ?_
  (repeat refine DX_seq ?_); refine rgx [2, 3, 4, 9, 10] ?_
  (repeat refine DX_seq ?_); refine rgx [2, 3, 4, 9, 10, 25] ?_
  (repeat refine DX_seq ?_); refine iftx ?_
  (repeat refine DX_seq ?_); refine rgx [8] ?_
  (repeat refine DX_seq ?_); refine DX_ret ?_; refine retx ?_; (try dsimp only [outV, unlist])
  exact Fin_pure rfl
end Go.Proofs.YtedioenakmgdiaaDoor

namespace Go.Proofs.YtedioenakmgdiaaDoor
set_option linter.unusedSimpArgs false
set_option linter.unusedVariables false
set_option maxRecDepth 10000
open Go.RowKit
set_option maxHeartbeats 8000000 in
theorem refverifyOk_c (root text sig : List UInt8) (m : Nat) (hr : root.length = 32) (hm : m ≤ 7) (hl : sig.length = 1089 + 32 * m) (hi : (sig.getD 0 0).toNat < 2 ^ m) (ht : text.length ≤ 1000000) :
    PC (envOf Tryd.prog) 36 [hashD root, iD (m : Int), strD text, strD sig] (iD (verS root text sig m)) := by
  have hh : ∀ h, hashD h = .arr .u8 32 (fun i => ((h.getD i 0).toNat : Int)) := fun _ => rfl
  have cp := refplaceOk_c m sig hm hl hi
  have h88 : ((sig.take 1089).drop 1).length = 1088 := by simp; omega
  have cr := refrecover_c text ((sig.take 1089).drop 1) ht
  unfold recD at cr
  rw [if_pos h88, if_pos h88] at cr
  have hdl : (sig.drop 1089).length = 32 * m := by simp; omega
  have hcl := chunk_len (sig.drop 1089) m
  have cc := refclimbOk_c (recS text ((sig.take 1089).drop 1)) (chunk32 (sig.drop 1089) m) (sig.getD 0 0).toNat (recS_len _ _) (by omega) (by rw [hcl]; exact hi) (chunk_all _ _ hdl)
  have hal := verA_len text sig m
  have hv : climbP (chunk32 (sig.drop 1089) m) (sig.getD 0 0).toNat (recS text ((sig.take 1089).drop 1)) = verA text sig m := rfl
  rw [hv] at cc
  have hq := hash_eq hal hr
  unfold verS
  unfold plD at cp
  unfold heD at cc
  generalize verA text sig m = at0 at *
  generalize recS text ((sig.take 1089).drop 1) = lf at *
  generalize (sig.getD 0 0).toNat = ix at *
  clear hv
  have hX := and_true; refine PC_atX Tryd.func36 rfl Tryd.ntmps36 Tryd.results36 rfl (by simp only [argsL, Nat.reduceAdd, u32D, u8D, iD, bD, strD, u32_xor, u32_or, u32_and, u32_add, u32_not, u32_shr, u32_shl, u8_u32, u32_u8]; exact rfl) ?_; intro w0 A
  have hX := And.intro hh (and_true)
  have hK := And.intro (cp) (And.intro (cr) trivial); (repeat refine DX_seq ?_); refine rgx [1, 2, 3, 4] ?_
  (repeat refine DX_seq ?_); refine rgx [2, 3, 4, 9, 10] ?_
  (repeat refine DX_seq ?_); refine rgx [2, 3, 4, 9, 10, 25] ?_
  (repeat refine DX_seq ?_); refine iffx ?_
  (repeat refine DX_seq ?_); refine DX_skip ?_
  (repeat refine DX_seq ?_); refine rgx [3, 4, 9, 11] ?_
  (repeat refine DX_seq ?_); refine rgx [4, 9, 11, 13] ?_
  (repeat refine DX_seq ?_); refine rgx [4, 9, 11, 13, 14] ?_
  generalize sig.drop 1089 = rs0 at *
  (repeat refine DX_seq ?_); refine DX_block ?_
  refine DX_weak (fun _ _ _ _ => Weak.nil_own 14 24 32 rfl) ?_
  refine DX_loop (fun j _ st => ∃ k, k + j = m ∧ st = mk [(4, .ptr 0 0), (9, iD (ix : Int)), (11, .ptr 1 0), (13, strD (rs0.drop (32 * k))), (14, .own 2 k 24 32)] [some (.one (hashD root)), some (.one (hashD lf)), some (.row ((chunk32 rs0 k).map hashD) 24 32)]) m ⟨_, WeakX.pick [4, 9, 11, 13, 14], 0, by omega, ?_⟩ ?_
  · simp [hh, iD, strD, evD, look]; rfl
  rintro j _ _ ⟨k, hk, rfl⟩
  have hdl2 : (rs0.drop (32 * k)).length = 32 * j := by rw [List.length_drop]; omega
  have hX := And.intro hh (and_true)
  (repeat refine DX_seq ?_); refine rgx [4, 9, 11, 13, 14, 38] ?_
  (repeat refine DX_seq ?_); refine ifx ?_ ?_
  · intro hc; (try simp only [hcs, ne_eq] at hc)
    have hj : 32 ≤ (rs0.drop (32 * k)).length := by omega
    have htl : ((rs0.drop (32 * k)).take 32).length = 32 := by rw [List.length_take]; omega
    have hcp := cpy_hash ((rs0.drop (32 * k)).take 32) (by omega)
    rw [List.take_take, Nat.min_self] at hcp
    have hckl := chunk_len rs0 k
    have hcs := chunk_succ rs0 k
    have hdd : (rs0.drop (32 * k)).drop 32 = rs0.drop (32 * (k + 1)) := by rw [List.drop_drop]; congr 1
    generalize rs0.drop (32 * k) = rs at *
    generalize hxx : List.take 32 rs = x at *
    (repeat refine DX_seq ?_); refine DX_skip ?_
    (repeat refine DX_seq ?_); refine DX_block ?_
    have hX := And.intro hckl (And.intro hh (And.intro hdd (hxx)))
    (repeat refine DX_seq ?_); refine rgx [4, 9, 11, 13, 14, 15] ?_
    (repeat refine DX_seq ?_); refine DX_drw [4, 9, 11, 13, 14, 15] 3 (by kernel_rfl) ?_; intro w0 A S0 f0; simp only [List.take, List.drop]; (repeat ((with_reducible show DRq _ _ _ (_ :: _) _); first | (refine cxq _ (envG _ _ _ _ _ _) rfl rfl rfl rfl rfl ?_ (hc := by first | exact cp | exact cr)) | (refine sxq ?_))); refine DRq_nil ?_
    refine ex rfl (docopy1 32 rfl rfl rfl rfl rfl) ?_
    rw [hcp]
    (repeat ((with_reducible show DR _ _ _ (_ :: _) _); first | (refine cx _ (envG _ _ _ _ _ _) rfl rfl rfl rfl rfl ?_ (hc := by first | exact cp | exact cr))  | (refine sx ?_))); refine DR_nil ?_; refine kl1 ?_
    (repeat refine DX_seq ?_); refine rgx [4, 9, 11, 13, 14] ?_
    (repeat refine DX_seq ?_); refine rgx [4, 9, 11, 13, 14] ?_
    refine ⟨_, j - 1, WeakX.take 3 rfl rfl rfl, by omega, k + 1, by omega, ?_⟩
    rw [hcs]
    simp [strD, hh, iD]
  · intro hc; (try simp only [hcs, ne_eq] at hc)
    obtain rfl : k = m := by omega
    (repeat refine DX_seq ?_); refine DX_exit ?_
    (repeat refine DX_seq ?_); refine DX_freeze 2 (chunk32 rs0 k) ([] : List UInt8) hashD (by rfl) (by rfl) (by simp only [List.map_cons, List.map_nil, frzR, iD, strD, hcl, List.take_of_length_le, Nat.le_refl, reduceIte, Nat.reduceEqDiff]; exact rfl) (by simp only [List.map_cons, List.map_nil, Option.map_some, frzK, frzR, hh, reduceIte, Nat.reduceEqDiff, List.set]; exact rfl) ?_
    generalize chunk32 rs0 k = ch at *
    by_cases hab : at0 = root
    · rw [if_pos hab]
      rw [decide_eq_true hab] at hq
      clear hab
      have hX := And.intro hsD_eq (And.intro hh (hq))
      have hK := And.intro (cc) trivial; (repeat refine DX_seq ?_); refine rgx [4, 16] ?_
      (repeat refine DX_seq ?_); refine rgx [58] ?_
      (repeat refine DX_seq ?_); refine iffx ?_
      (repeat refine DX_seq ?_); refine DX_skip ?_
      (repeat refine DX_seq ?_); refine rgx [8] ?_
      (repeat refine DX_seq ?_); refine DX_ret ?_; refine retx ?_; (try dsimp only [outV, unlist])
      exact Fin_pure rfl
    · rw [if_neg hab]
      rw [decide_eq_false hab] at hq
      clear hab
      have hX := And.intro hsD_eq (And.intro hh (hq))
      have hK := And.intro (cc) trivial; (repeat refine DX_seq ?_); refine rgx [4, 16] ?_
      (repeat refine DX_seq ?_); refine rgx [58] ?_
      (repeat refine DX_seq ?_); refine iftx ?_
      (repeat refine DX_seq ?_); refine rgx [8] ?_
      (repeat refine DX_seq ?_); refine DX_ret ?_; refine retx ?_; (try dsimp only [outV, unlist])
      exact Fin_pure rfl
end Go.Proofs.YtedioenakmgdiaaDoor
