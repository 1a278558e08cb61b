/- Ways, as the document says. Sums compared; roots and paths, as the document says. Paths, as the document says. Answers that the document gives for trees. The laws of trees, walked. -/
import Derived.Test.YtedioenakmgdiaaDoorPD
import Derived.Test.YtedioenakmgdiaaDoorPT
namespace Go.Proofs.YtedioenakmgdiaaDoor
set_option linter.unusedSimpArgs false
set_option linter.unusedVariables false
set_option maxRecDepth 10000
open Go.RowKit
def tsD (l : List (List UInt8)) : D := .sl l ([] : List UInt8) strD
theorem tsD_eq (l : List (List UInt8)) : tsD l = .sl l ([] : List UInt8) strD := rfl
theorem dec_mod1 (x : Nat) : decide (((x : Nat) : Int) % 2 = 1) = decide (¬ x % 2 = 0) := decide_eq_decide.2 (by omega)
/-- the texts of a way, and whether it ends at a root -/
def wayD (l : List (List UInt8)) (b : Bool) : D := .tup (.cons (tsD l) (.cons (bD b) .nil))
set_option maxHeartbeats 4000000 in
theorem wayOk_c (leaf : List UInt8) (p : List (List UInt8)) (i : Nat) (hlf : leaf.length = 32) (hp : p.length ≤ 7) (hib : i ≤ 9223372036854775807) (h32 : ∀ x ∈ p, x.length = 32) : PC (envOf Tryd.prog) 24 [hashD leaf, iD (i : Int), hsD p] (wayD (wayP p i leaf) (decide (i / 2 ^ p.length = 0))) := by
  have hh : ∀ h, hashD h = .arr .u8 32 (fun i => ((h.getD i 0).toNat : Int)) := fun _ => rfl
  have d0 : decide ((7 : Int) < (p.length : Int)) = false := decide_eq_false (by omega)
  have d1 := nat_lt0' i
  unfold wayD
  have hX := and_true; refine PC_atX Tryd.func24 rfl Tryd.ntmps24 Tryd.results24 rfl (by simp only [argsL, Nat.reduceAdd, u32D, u8D, iD, bD, strD, u32_xor, u32_or, u32_and, u32_add, u32_not, u32_shr, u32_shl, u8_u32, u32_u8]; exact rfl) ?_; intro w0 A
  have hX := And.intro hsD_eq (And.intro hh (And.intro d0 (d1)))
  (repeat refine DX_seq ?_); refine rgx [1, 2, 3] ?_
  (repeat refine DX_seq ?_); refine rggx [1, 2, 3, 19] ?_
  (repeat refine DX_seq ?_); refine iffx ?_
  (repeat refine DX_seq ?_); refine DX_skip ?_
  (repeat refine DX_seq ?_); refine rgx [1, 2, 3, 8] ?_
  (repeat refine DX_seq ?_); refine rgx [1, 2, 8, 9] ?_
  (repeat refine DX_seq ?_); refine rgx [1, 8, 9, 21, 22, 23] ?_
  (repeat refine DX_seq ?_); refine DX_block ?_
  refine DX_weak (fun _ _ _ _ => Weak.nil_own 8 9 1 rfl) ?_
  refine DX_loop (fun m _ st => ∃ k, k + m = p.length ∧ st = mk [(1, iD ((i / 2 ^ k : Nat) : Int)), (8, .own 2 k 9 1), (9, .ptr 1 0), (21, hsD p), (22, iD (p.length : Int)), (23, iD (k : Int))] [some (.one (hashD leaf)), some (.one (hashD (climbP (p.take k) i leaf))), some (.row ((wayP (p.take k) i leaf).map strD) 9 1)]) p.length ⟨_, WeakX.pick [1, 8, 9, 21, 22, 23], 0, by omega, ?_⟩ ?_
  · rw [Nat.pow_zero, Nat.div_one]; rfl
  rintro m _ _ ⟨k, hk, rfl⟩
  have hX := And.intro hsD_eq (hh)
  (repeat refine DX_seq ?_); refine rgx [1, 8, 9, 21, 22, 23, 24] ?_
  (repeat refine DX_seq ?_); refine ifx ?_ ?_
  · intro hc; (try simp only [hcs, ne_eq] at hc)
    have hkn : k < p.length := by omega
    have hs := climbP_snoc (p.take k) (p.getD k []) i leaf
    have hw := wayP_snoc (p.take k) (p.getD k []) i leaf
    have hwl := wayP_len (p.take k) i leaf
    rw [List.length_take, Nat.min_eq_left (by omega)] at hwl
    rw [← take_one hkn, List.length_take, Nat.min_eq_left (by omega)] at hs hw
    have hcl := climbP_len (p.take k) i leaf hlf
    have hxl := getD_all h32 hkn
    have hdd : i / 2 ^ (k + 1) = i / 2 ^ k / 2 := by rw [Nat.pow_succ, Nat.div_div_eq_div_mul]
    have hyl : i / 2 ^ k ≤ i := Nat.div_le_self _ _
    generalize climbP (p.take k) i leaf = at' at *
    generalize hxx : p.getD k [] = x at *
    generalize i / 2 ^ k = y at *
    have s1 : (y : Int) / 2 = ((y / 2 : Nat) : Int) := by omega
    have dm := dec_mod1 y
    (repeat refine DX_seq ?_); refine DX_skip ?_
    (repeat refine DX_seq ?_); refine DX_block ?_
    have hX := And.intro hsD_eq (And.intro hh (And.intro hxx (dm)))
    have hK := And.intro (text_c at' x hcl hxl) (And.intro (text_c x at' hxl hcl) trivial); (repeat refine DX_seq ?_); refine rgx [1, 8, 9, 11, 21, 22, 23] ?_
    (repeat refine DX_seq ?_); refine rgx [1, 8, 9, 11, 12, 21, 22, 23] ?_
    (repeat refine DX_seq ?_); refine rgx [1, 8, 9, 11, 12, 21, 22, 23, 32] ?_
    (repeat refine DX_seq ?_); refine ifx ?_ ?_
    · intro hc2; have hc2 : ¬ y % 2 = 0 := by simpa using hc2
      rw [if_neg hc2] at hs hw
      have hX := And.intro hsD_eq (And.intro hh (And.intro s1 (hwl)))
      (repeat refine DX_seq ?_); refine DX_reg [1, 8, 9, 12, 21, 22, 23] ?_; intro w0 A S0 f0; (repeat ((with_reducible show DR _ _ _ (_ :: _) _); first | (refine cx _ (envG _ _ _ _ _ _) rfl rfl rfl rfl rfl ?_ (hc := by first | exact text_c x at' hxl hcl | exact refsumT_c _ (by rw [textS_len hxl hcl]; omega)))  | (refine sx ?_))); refine DR_nil ?_; refine kl1 ?_
      (repeat refine DX_seq ?_); refine DX_reg [1, 8, 9, 12, 21, 22, 23] ?_; intro w0 A S0 f0; (repeat ((with_reducible show DR _ _ _ (_ :: _) _); first | (refine cx _ (envG _ _ _ _ _ _) rfl rfl rfl rfl rfl ?_ (hc := by first | exact text_c x at' hxl hcl | exact refsumT_c _ (by rw [textS_len hxl hcl]; omega)))  | (refine sx ?_))); refine DR_nil ?_; refine kl1 ?_
      (repeat refine DX_seq ?_); refine DX_reg [1, 8, 9, 21, 22, 23] ?_; intro w0 A S0 f0; (repeat ((with_reducible show DR _ _ _ (_ :: _) _); first | (refine cx _ (envG _ _ _ _ _ _) rfl rfl rfl rfl rfl ?_ (hc := by first | exact text_c x at' hxl hcl | exact refsumT_c _ (by rw [textS_len hxl hcl]; omega)))  | (refine sx ?_))); refine DR_nil ?_; refine kl1 ?_
      (repeat refine DX_seq ?_); refine DX_reg [1, 8, 9, 21, 22, 23] ?_; intro w0 A S0 f0; (repeat ((with_reducible show DR _ _ _ (_ :: _) _); first | (refine cx _ (envG _ _ _ _ _ _) rfl rfl rfl rfl rfl ?_ (hc := by first | exact text_c x at' hxl hcl | exact refsumT_c _ (by rw [textS_len hxl hcl]; omega)))  | (refine sx ?_))); refine DR_nil ?_; refine kl1 ?_
      (repeat refine DX_seq ?_); refine DX_reg [1, 8, 9, 21, 22, 23] ?_; intro w0 A S0 f0; (repeat ((with_reducible show DR _ _ _ (_ :: _) _); first | (refine cx _ (envG _ _ _ _ _ _) rfl rfl rfl rfl rfl ?_ (hc := by first | exact text_c x at' hxl hcl | exact refsumT_c _ (by rw [textS_len hxl hcl]; omega)))  | (refine sx ?_))); refine DR_nil ?_; refine kl1 ?_
      refine ⟨_, m - 1, WeakX.take 3 rfl rfl rfl, by omega, k + 1, by omega, ?_⟩
      rw [hs, hw, hdd]; simp [iD, hsD_eq, hh, strD, aboveS, kil]
    · intro hc2; have hc2 : y % 2 = 0 := by simpa using hc2
      rw [if_pos hc2] at hs hw
      (repeat refine DX_seq ?_); refine DX_skip ?_
      have hX := And.intro hsD_eq (And.intro hh (And.intro s1 (hwl)))
      (repeat refine DX_seq ?_); refine DX_reg [1, 8, 9, 12, 21, 22, 23] ?_; intro w0 A S0 f0; (repeat ((with_reducible show DR _ _ _ (_ :: _) _); first | (refine cx _ (envG _ _ _ _ _ _) rfl rfl rfl rfl rfl ?_ (hc := by first | exact refsumT_c _ (by rw [textS_len hcl hxl]; omega)))  | (refine sx ?_))); refine DR_nil ?_; refine kl1 ?_
      (repeat refine DX_seq ?_); refine DX_reg [1, 8, 9, 21, 22, 23] ?_; intro w0 A S0 f0; (repeat ((with_reducible show DR _ _ _ (_ :: _) _); first | (refine cx _ (envG _ _ _ _ _ _) rfl rfl rfl rfl rfl ?_ (hc := by first | exact refsumT_c _ (by rw [textS_len hcl hxl]; omega)))  | (refine sx ?_))); refine DR_nil ?_; refine kl1 ?_
      (repeat refine DX_seq ?_); refine DX_reg [1, 8, 9, 21, 22, 23] ?_; intro w0 A S0 f0; (repeat ((with_reducible show DR _ _ _ (_ :: _) _); first | (refine cx _ (envG _ _ _ _ _ _) rfl rfl rfl rfl rfl ?_ (hc := by first | exact refsumT_c _ (by rw [textS_len hcl hxl]; omega)))  | (refine sx ?_))); refine DR_nil ?_; refine kl1 ?_
      (repeat refine DX_seq ?_); refine DX_reg [1, 8, 9, 21, 22, 23] ?_; intro w0 A S0 f0; (repeat ((with_reducible show DR _ _ _ (_ :: _) _); first | (refine cx _ (envG _ _ _ _ _ _) rfl rfl rfl rfl rfl ?_ (hc := by first | exact refsumT_c _ (by rw [textS_len hcl hxl]; omega)))  | (refine sx ?_))); refine DR_nil ?_; refine kl1 ?_
      refine ⟨_, m - 1, WeakX.take 3 rfl rfl rfl, by omega, k + 1, by omega, ?_⟩
      rw [hs, hw, hdd]; simp [iD, hsD_eq, hh, strD, aboveS, kil]
  · intro hc; (try simp only [hcs, ne_eq] at hc)
    obtain rfl : k = p.length := by omega
    (repeat refine DX_seq ?_); refine DX_exit ?_
    rw [List.take_length]
    have hwl := wayP_len p i leaf
    have e0 : decide (((i / 2 ^ p.length : Nat) : Int) = 0) = decide (i / 2 ^ p.length = 0) := decide_eq_decide.2 (by omega)
    have hX := And.intro hsD_eq (And.intro hh (e0))
    (repeat refine DX_seq ?_); refine rgx [6, 7] ?_
    (repeat refine DX_seq ?_); refine DX_ret ?_; refine retx ?_; (try dsimp only [outV, unlist])
    refine Fin_tup (.cons rfl rfl (Fin_elems rfl (by simp only [elems, List.getElem?_cons_zero, List.getElem?_cons_succ]; exact rfl) (by simp [hwl]) ?_ (fun _ => rfl)) (.cons rfl rfl (Fin_pure rfl) .nil))
    rw [List.take_of_length_le (by simp [hwl])]
set_option maxHeartbeats 4000000 in
theorem wayNo_c (leaf : List UInt8) (p : List (List UInt8)) (i : Int) (hno : 7 < p.length ∨ i < 0) : PC (envOf Tryd.prog) 24 [hashD leaf, iD i, hsD p] (wayD [] false) := by
  have hh : ∀ h, hashD h = .arr .u8 32 (fun i => ((h.getD i 0).toNat : Int)) := fun _ => rfl
  unfold wayD
  by_cases h0 : 7 < p.length
  · have d0 : decide ((7 : Int) < (p.length : Int)) = true := decide_eq_true (by omega)
    have hX := and_true; refine PC_atX Tryd.func24 rfl Tryd.ntmps24 Tryd.results24 rfl (by simp only [argsL, Nat.reduceAdd, u32D, u8D, iD, bD, strD, u32_xor, u32_or, u32_and, u32_add, u32_not, u32_shr, u32_shl, u8_u32, u32_u8]; exact rfl) ?_; intro w0 A
    have hX := And.intro hsD_eq (And.intro hh (d0))
    (repeat refine DX_seq ?_); refine rgx [1, 2, 3] ?_
    (repeat refine DX_seq ?_); refine rggx [1, 2, 3, 19] ?_
    (repeat refine DX_seq ?_); refine iftx ?_
    (repeat refine DX_seq ?_); refine rgx [6, 7] ?_
    (repeat refine DX_seq ?_); refine DX_ret ?_; refine retx ?_; (try dsimp only [outV, unlist])
    exact Fin_tup (.cons rfl rfl Fin_nil (.cons rfl rfl (Fin_pure rfl) .nil))
  · have d0 : decide ((7 : Int) < (p.length : Int)) = false := decide_eq_false (by omega)
    have d1 : decide (i < 0) = true := decide_eq_true (by omega)
    have hX := and_true; refine PC_atX Tryd.func24 rfl Tryd.ntmps24 Tryd.results24 rfl (by simp only [argsL, Nat.reduceAdd, u32D, u8D, iD, bD, strD, u32_xor, u32_or, u32_and, u32_add, u32_not, u32_shr, u32_shl, u8_u32, u32_u8]; exact rfl) ?_; intro w0 A
    have hX := And.intro hsD_eq (And.intro hh (And.intro d0 (d1)))
    (repeat refine DX_seq ?_); refine rgx [1, 2, 3] ?_
    (repeat refine DX_seq ?_); refine rggx [1, 2, 3, 19] ?_
    (repeat refine DX_seq ?_); refine iftx ?_
    (repeat refine DX_seq ?_); refine rgx [6, 7] ?_
    (repeat refine DX_seq ?_); refine DX_ret ?_; refine retx ?_; (try dsimp only [outV, unlist])
    exact Fin_tup (.cons rfl rfl Fin_nil (.cons rfl rfl (Fin_pure rfl) .nil))
/-- a way's root, as the document says -/
theorem div_pow_zero {i n : Nat} : i / 2 ^ n = 0 ↔ i < 2 ^ n := by
  rw [Nat.div_eq_zero_iff]
  constructor
  · rintro (h | h)
    · exact absurd h (Nat.ne_of_gt (Nat.two_pow_pos n))
    · exact h
  · intro h; exact .inr h
set_option maxHeartbeats 4000000 in
theorem refclimbNo_c (leaf : List UInt8) (p : List (List UInt8)) (i : Int) (hlf : leaf.length = 32) (h32 : ∀ x ∈ p, x.length = 32) (hib : i ≤ 9223372036854775807) (hno : 7 < p.length ∨ i < 0 ∨ ((2 ^ p.length : Nat) : Int) ≤ i) : PC (envOf Tryd.prog) 21 [hashD leaf, iD i, hsD p] hnD := by
  have hh : ∀ h, hashD h = .arr .u8 32 (fun i => ((h.getD i 0).toNat : Int)) := fun _ => rfl
  obtain ⟨T, hT⟩ : ∃ T, PC (envOf Tryd.prog) 24 [hashD leaf, iD i, hsD p] (.tup (.cons (tsD T) (.cons (bD false) .nil))) := by
    by_cases h1 : 7 < p.length ∨ i < 0
    · exact ⟨[], wayNo_c leaf p i h1⟩
    · obtain ⟨n, rfl⟩ : ∃ n : Nat, i = (n : Int) := ⟨i.toNat, by omega⟩
      have := wayOk_c leaf p n hlf (by omega) (by omega) h32
      have hn : ¬ n / 2 ^ p.length = 0 := by rw [div_pow_zero]; omega
      rw [decide_eq_false hn] at this
      exact ⟨_, this⟩
  have hX := and_true; refine PC_atX Tryd.func21 rfl Tryd.ntmps21 Tryd.results21 rfl (by simp only [argsL, Nat.reduceAdd, u32D, u8D, iD, bD, strD, u32_xor, u32_or, u32_and, u32_add, u32_not, u32_shr, u32_shl, u8_u32, u32_u8]; exact rfl) ?_; intro w0 A
  have hX := And.intro hsD_eq (hh)
  have hK := And.intro (hT) trivial; (repeat refine DX_seq ?_); refine rgx [1, 2, 3, 6] ?_
  (repeat refine DX_seq ?_); refine rgx [3, 6, 8, 9] ?_
  (repeat refine DX_seq ?_); refine rgx [3, 6, 8, 18] ?_
  (repeat refine DX_seq ?_); refine iftx ?_
  (repeat refine DX_seq ?_); refine rgx [6, 7] ?_
  (repeat refine DX_seq ?_); refine DX_ret ?_; refine retx ?_; (try dsimp only [outV, unlist])
  exact Fin_pure rfl
set_option maxHeartbeats 4000000 in
theorem refclimbOk_c (leaf : List UInt8) (p : List (List UInt8)) (i : Nat) (hlf : leaf.length = 32) (hp : p.length ≤ 7) (hi : i < 2 ^ p.length) (h32 : ∀ x ∈ p, x.length = 32) : PC (envOf Tryd.prog) 21 [hashD leaf, iD (i : Int), hsD p] (heD (climbP p i leaf) 0) := by
  have hh : ∀ h, hashD h = .arr .u8 32 (fun i => ((h.getD i 0).toNat : Int)) := fun _ => rfl
  have hpb := two_pow_big hp
  have hW := wayOk_c leaf p i hlf hp (by omega) h32
  rw [decide_eq_true (div_pow_zero.2 hi)] at hW
  have hwl := wayP_len p i leaf
  cases hpe : p with
  | nil =>
    subst hpe
    have hwn : wayP [] i leaf = [] := rfl
    rw [hwn] at hW
    unfold wayD at hW
    have hX := and_true; refine PC_atX Tryd.func21 rfl Tryd.ntmps21 Tryd.results21 rfl (by simp only [argsL, Nat.reduceAdd, u32D, u8D, iD, bD, strD, u32_xor, u32_or, u32_and, u32_add, u32_not, u32_shr, u32_shl, u8_u32, u32_u8]; exact rfl) ?_; intro w0 A
    have hX := And.intro hsD_eq (And.intro tsD_eq (hh))
    have hK := And.intro (hW) trivial; (repeat refine DX_seq ?_); refine rgx [1, 2, 3, 6] ?_
    (repeat refine DX_seq ?_); refine rgx [3, 6, 8, 9] ?_
    (repeat refine DX_seq ?_); refine rgx [3, 6, 8, 18] ?_
    (repeat refine DX_seq ?_); refine iffx ?_
    (repeat refine DX_seq ?_); refine DX_skip ?_
    (repeat refine DX_seq ?_); refine rgx [3, 6, 8, 22] ?_
    (repeat refine DX_seq ?_); refine iftx ?_
    (repeat refine DX_seq ?_); refine rgx [6, 7] ?_
    (repeat refine DX_seq ?_); refine DX_ret ?_; refine retx ?_; (try dsimp only [outV, unlist])
    exact Fin_pure rfl
  | cons x q =>
    have hcl := climb_last p i leaf (by rw [hpe]; simp)
    have hpl : 0 < p.length := by rw [hpe]; simp
    rw [← hpe]
    have hlast : ((wayP p i leaf).getD (p.length - 1) []).length ≤ 1048576 := by
      obtain ⟨q', y, hq⟩ : ∃ q' y, p = q' ++ [y] := ⟨p.dropLast, p.getLast (by rw [hpe]; simp), (List.dropLast_concat_getLast _).symm⟩
      have h1 := wayP_snoc q' y i leaf
      have hql := wayP_len q' i leaf
      have hy : y.length = 32 := h32 y (by rw [hq]; simp)
      have hc := climbP_len q' i leaf hlf
      rw [hq, h1]
      simp only [List.length_append, List.length_cons, List.length_nil, Nat.add_sub_cancel, List.getD_eq_getElem?_getD, Nat.zero_add]
      rw [List.getElem?_append_right (by omega), hql]
      simp only [Nat.sub_self, List.getElem?_cons_zero, Option.getD_some]
      split
      · rw [textS_len hc hy]; omega
      · rw [textS_len hy hc]; omega
    rw [hcl]
    unfold wayD at hW
    generalize wayP p i leaf = T at *
    have i1 : (T.length : Int) - 1 = ((p.length - 1 : Nat) : Int) := by omega
    have d0 : decide ((T.length : Int) = 0) = false := decide_eq_false (by omega)
    generalize hTT : T.getD (p.length - 1) [] = t at *
    have hX := and_true; refine PC_atX Tryd.func21 rfl Tryd.ntmps21 Tryd.results21 rfl (by simp only [argsL, Nat.reduceAdd, u32D, u8D, iD, bD, strD, u32_xor, u32_or, u32_and, u32_add, u32_not, u32_shr, u32_shl, u8_u32, u32_u8]; exact rfl) ?_; intro w0 A
    have hX := And.intro hsD_eq (And.intro tsD_eq (And.intro hh (d0)))
    have hK := And.intro (hW) (And.intro (refsumT_c t hlast) trivial); (repeat refine DX_seq ?_); refine rgx [1, 2, 3, 6] ?_
    (repeat refine DX_seq ?_); refine rgx [3, 6, 8, 9] ?_
    (repeat refine DX_seq ?_); refine rgx [3, 6, 8, 18] ?_
    (repeat refine DX_seq ?_); refine iffx ?_
    (repeat refine DX_seq ?_); refine DX_skip ?_
    (repeat refine DX_seq ?_); refine rgx [3, 6, 8, 22] ?_
    (repeat refine DX_seq ?_); refine iffx ?_
    (repeat refine DX_seq ?_); refine DX_skip ?_
    have hX := And.intro hsD_eq (And.intro tsD_eq (And.intro hh (And.intro i1 (hTT))))
    (repeat refine DX_seq ?_); refine rgx [6, 7] ?_
    (repeat refine DX_seq ?_); refine DX_ret ?_; refine retx ?_; (try dsimp only [outV, unlist])
    exact Fin_pure rfl
end Go.Proofs.YtedioenakmgdiaaDoor

namespace Go.Proofs.YtedioenakmgdiaaDoor
set_option linter.unusedSimpArgs false
set_option linter.unusedVariables false
set_option maxRecDepth 10000
open Go.RowKit
theorem hash_eq {a b : List UInt8} (ha : a.length = 32) (hb : b.length = 32) : decide ((List.range 32).map (fun i => ((a.getD i 0).toNat : Int)) = (List.range 32).map (fun i => ((b.getD i 0).toNat : Int))) = decide (a = b) := by
  refine decide_eq_decide.2 ⟨fun h => ?_, fun h => by rw [h]⟩
  apply List.ext_getElem (by omega)
  intro i h1 h2
  have := congrArg (fun l => l.getD i 0) h
  simp only [List.getD_eq_getElem?_getD, List.getElem?_map, List.getElem?_range (show i < 32 by omega), Option.map_some, Option.getD_some, List.getElem?_eq_getElem h1, List.getElem?_eq_getElem h2] at this
  exact UInt8.toNat_inj.1 (by omega)
theorem take_allH {a b : List (List UInt8)} (hl : a.length = b.length) (h : ∀ k, k < a.length → a.getD k [] = b.getD k []) : a = b := by
  apply List.ext_getElem hl
  intro i h1 h2
  have := h i h1
  simpa [List.getD_eq_getElem?_getD, h1, h2] using this
set_option maxHeartbeats 4000000 in
theorem sameH_c (a b : List (List UInt8)) (h1 : a.length ≤ 1000000) (ha : ∀ x ∈ a, x.length = 32) (hb : ∀ x ∈ b, x.length = 32) : PC (envOf Tryd.prog) 19 [hsD a, hsD b] (bD (decide (a = b))) := by
  have hh : ∀ h, hashD h = .arr .u8 32 (fun i => ((h.getD i 0).toNat : Int)) := fun _ => rfl
  have hX := and_true; refine PC_atX Tryd.func19 rfl Tryd.ntmps19 Tryd.results19 rfl (by simp only [argsL, Nat.reduceAdd, u32D, u8D, iD, bD, strD, u32_xor, u32_or, u32_and, u32_add, u32_not, u32_shr, u32_shl, u8_u32, u32_u8]; exact rfl) ?_; intro w0 A
  have hX := And.intro hsD_eq (hh)
  (repeat refine DX_seq ?_); refine rgx [0, 1] ?_
  (repeat refine DX_seq ?_); refine rgx [0, 1, 10] ?_
  (repeat refine DX_seq ?_); refine ifx ?_ ?_
  · intro hc; (try simp only [hcs, ne_eq] at hc)
    (repeat refine DX_seq ?_); refine rgx [4] ?_
    (repeat refine DX_seq ?_); refine DX_ret ?_; refine retx ?_; (try dsimp only [outV, unlist])
    rw [decide_eq_false (fun e => by subst e; exact hc rfl)]
    exact Fin_pure rfl
  · intro hc; (try simp only [hcs, ne_eq] at hc)
    have hl : a.length = b.length := by omega
    (repeat refine DX_seq ?_); refine DX_skip ?_
    (repeat refine DX_seq ?_); refine rgx [0, 1, 12, 13] ?_
    (repeat refine DX_seq ?_); refine DX_block ?_
    (repeat refine DX_seq ?_); refine DX_loop (fun m _ st => ∃ k, k + m = a.length ∧ (∀ i, i < k → a.getD i [] = b.getD i []) ∧ st = mk [(0, hsD a), (1, hsD b), (12, iD (a.length : Int)), (13, iD (k : Int))] []) a.length ⟨_, WeakX.refl _, 0, by omega, fun i hi => absurd hi (by omega), rfl⟩ ?_
    rintro m _ _ ⟨k, hk, hall, rfl⟩
    have hX := And.intro hsD_eq (hh)
    (repeat refine DX_seq ?_); refine rgx [0, 1, 12, 13, 14] ?_
    (repeat refine DX_seq ?_); refine ifx ?_ ?_
    · intro hc; (try simp only [hcs, ne_eq] at hc)
      have ea := getD_all ha (i := k) (by omega)
      have eb := getD_all hb (i := k) (by omega)
      have hq := hash_eq ea eb
      (repeat refine DX_seq ?_); refine DX_skip ?_
      (repeat refine DX_seq ?_); refine DX_block ?_
      have hX := And.intro hsD_eq (And.intro hh (hq))
      (repeat refine DX_seq ?_); refine rgx [0, 1, 5, 12, 13] ?_
      (repeat refine DX_seq ?_); refine rqx [0, 1, 12, 13, 24] ?_
      (repeat refine DX_seq ?_); refine ifx ?_ ?_
      · intro hc; (try simp only [hcs, ne_eq] at hc)
        (repeat refine DX_seq ?_); refine rgx [4] ?_
        (repeat refine DX_seq ?_); refine DX_ret ?_; refine retx ?_; (try dsimp only [outV, unlist])
        rw [decide_eq_false (fun e => by subst e; exact hc rfl)]
        exact Fin_pure rfl
      · intro hc; (try simp only [hcs, ne_eq] at hc)
        (repeat refine DX_seq ?_); refine DX_skip ?_
        (repeat refine DX_seq ?_); refine rgx [0, 1, 12, 13] ?_
        refine ⟨_, m - 1, WeakX.refl _, by omega, k + 1, by omega, fun i hi => ?_, by simp [iD, hsD_eq]⟩
        by_cases e : i = k
        · rw [e]; exact hc
        · exact hall i (by omega)
    · intro hc; (try simp only [hcs, ne_eq] at hc)
      obtain rfl : k = a.length := by omega
      (repeat refine DX_seq ?_); refine DX_exit ?_
      (repeat refine DX_seq ?_); refine rgx [4] ?_
      (repeat refine DX_seq ?_); refine DX_ret ?_; refine retx ?_; (try dsimp only [outV, unlist])
      rw [decide_eq_true (take_allH hl hall)]
      exact Fin_pure rfl
/-! ### whether there may be so many -/
theorem fit_iff (n : Nat) : fitB n = true ↔ ∃ k, k ≤ 7 ∧ n = 2 ^ k := ⟨fit_pow, fun ⟨k, h, e⟩ => e ▸ fit_yes h⟩
set_option maxHeartbeats 4000000 in
theorem reffits_c (n : Nat) : PC (envOf Tryd.prog) 59 [iD (n : Int)] (bD (fitB n)) := by
  have hX := and_true; refine PC_atX Tryd.func59 rfl Tryd.ntmps59 Tryd.results59 rfl (by simp only [argsL, Nat.reduceAdd, u32D, u8D, iD, bD, strD, u32_xor, u32_or, u32_and, u32_add, u32_not, u32_shr, u32_shl, u8_u32, u32_u8]; exact rfl) ?_; intro w0 A
  (repeat refine DX_seq ?_); refine rgx [0] ?_
  (repeat refine DX_seq ?_); refine rgx [0, 3] ?_
  (repeat refine DX_seq ?_); refine rgx [0, 3, 4] ?_
  (repeat refine DX_seq ?_); refine DX_block ?_
  (repeat refine DX_seq ?_); refine DX_loop (fun m _ st => ∃ k, k + m = 8 ∧ (∀ j, j < k → n ≠ 2 ^ j) ∧ st = mk [(0, iD (n : Int)), (3, iD ((2 ^ k : Nat) : Int)), (4, iD (k : Int))] []) 8 ⟨_, WeakX.refl _, 0, by omega, fun i hi => absurd hi (by omega), rfl⟩ ?_
  rintro m _ _ ⟨k, hk, hall, rfl⟩
  (repeat refine DX_seq ?_); refine rgx [0, 3, 4, 6] ?_
  (repeat refine DX_seq ?_); refine ifx ?_ ?_
  · intro hc; (try simp only [hcs, ne_eq] at hc)
    have hk7 : k ≤ 7 := by omega
    have hpb := two_pow_big hk7
    have hsu : 2 ^ (k + 1) = 2 ^ k * 2 := Nat.pow_succ 2 k
    have hfy := fit_yes hk7
    generalize hx : 2 ^ k = x at *
    (repeat refine DX_seq ?_); refine DX_skip ?_
    (repeat refine DX_seq ?_); refine DX_block ?_
    (repeat refine DX_seq ?_); refine rgx [0, 3, 4, 11] ?_
    (repeat refine DX_seq ?_); refine ifx ?_ ?_
    · intro hc; (try simp only [hcs, ne_eq] at hc)
      obtain rfl : n = x := by omega
      (repeat refine DX_seq ?_); refine rgx [2] ?_
      (repeat refine DX_seq ?_); refine DX_ret ?_; refine retx ?_; (try dsimp only [outV, unlist])
      rw [hfy]
      exact Fin_pure rfl
    · intro hc; (try simp only [hcs, ne_eq] at hc)
      (repeat refine DX_seq ?_); refine DX_skip ?_
      (repeat refine DX_seq ?_); refine rgx [0, 3, 4] ?_
      (repeat refine DX_seq ?_); refine rgx [0, 3, 4] ?_
      refine ⟨_, m - 1, WeakX.refl _, by omega, k + 1, by omega, fun i hi => ?_, by rw [hsu]; simp [iD]⟩
      by_cases e : i = k
      · rw [e, hx]; omega
      · exact hall i (by omega)
  · intro hc; (try simp only [hcs, ne_eq] at hc)
    have hno : fitB n = false := by
      cases hf : fitB n with
      | false => rfl
      | true =>
        obtain ⟨j, hj, e⟩ := fit_pow hf
        exact absurd e (hall j (by omega))
    (repeat refine DX_seq ?_); refine DX_exit ?_
    rw [hno]
    (repeat refine DX_seq ?_); refine rgx [2] ?_
    (repeat refine DX_seq ?_); refine DX_ret ?_; refine retx ?_; (try dsimp only [outV, unlist])
    exact Fin_pure rfl
/-! ### roots -/
set_option maxHeartbeats 4000000 in
theorem refrootNo_c (l : List (List UInt8)) (hf : fitB l.length = false) : PC (envOf Tryd.prog) 15 [hsD l] hnD := by
  have hX := and_true; refine PC_atX Tryd.func15 rfl Tryd.ntmps15 Tryd.results15 rfl (by simp only [argsL, Nat.reduceAdd, u32D, u8D, iD, bD, strD, u32_xor, u32_or, u32_and, u32_add, u32_not, u32_shr, u32_shl, u8_u32, u32_u8]; exact rfl) ?_; intro w0 A
  have hX := And.intro hsD_eq (hf)
  have hK := And.intro (reffits_c l.length) trivial; (repeat refine DX_seq ?_); refine rgx [0, 2] ?_
  (repeat refine DX_seq ?_); refine rgx [0, 2, 4] ?_
  (repeat refine DX_seq ?_); refine rgx [0, 2, 4, 13] ?_
  (repeat refine DX_seq ?_); refine iftx ?_
  (repeat refine DX_seq ?_); refine rgx [2, 3] ?_
  (repeat refine DX_seq ?_); refine DX_ret ?_; refine retx ?_; (try dsimp only [outV, unlist])
  exact Fin_pure rfl
theorem rootR_len (k : Nat) (l : List (List UInt8)) (hl : l.length = 2 ^ k) (h32 : ∀ x ∈ l, x.length = 32) : (rootR k l).length = 32 := by
  rw [← root_eq k l hl]; exact rootP_len k l hl h32
set_option maxHeartbeats 4000000 in
theorem refrootOk_c : ∀ (k : Nat) (l : List (List UInt8)), l.length = 2 ^ k → k ≤ 7 → (∀ x ∈ l, x.length = 32) → PC (envOf Tryd.prog) 15 [hsD l] (heD (rootR k l) 0)
  | 0, l, hl, hk, h32 => by
    have hh : ∀ h, hashD h = .arr .u8 32 (fun i => ((h.getD i 0).toNat : Int)) := fun _ => rfl
    have hf : fitB l.length = true := by rw [hl]; exact fit_yes hk
    have d1 : decide ((l.length : Int) = 1) = true := decide_eq_true (by rw [hl]; rfl)
    have hl1 : l.length = 1 := hl
    have hX := and_true; refine PC_atX Tryd.func15 rfl Tryd.ntmps15 Tryd.results15 rfl (by simp only [argsL, Nat.reduceAdd, u32D, u8D, iD, bD, strD, u32_xor, u32_or, u32_and, u32_add, u32_not, u32_shr, u32_shl, u8_u32, u32_u8]; exact rfl) ?_; intro w0 A
    have hX := And.intro hsD_eq (And.intro hh (And.intro hf (d1)))
    have hK := And.intro (reffits_c l.length) trivial; (repeat refine DX_seq ?_); refine rgx [0, 2] ?_
    (repeat refine DX_seq ?_); refine rgx [0, 2, 4] ?_
    (repeat refine DX_seq ?_); refine rgx [0, 2, 4, 13] ?_
    (repeat refine DX_seq ?_); refine iffx ?_
    (repeat refine DX_seq ?_); refine DX_skip ?_
    (repeat refine DX_seq ?_); refine rgx [0, 2, 4, 16] ?_
    (repeat refine DX_seq ?_); refine iftx ?_
    (repeat refine DX_seq ?_); refine rgx [2, 3] ?_
    (repeat refine DX_seq ?_); refine DX_ret ?_; refine retx ?_; (try dsimp only [outV, unlist])
    exact Fin_pure rfl
  | k + 1, l, hl, hk, h32 => by
    have hh : ∀ h, hashD h = .arr .u8 32 (fun i => ((h.getD i 0).toNat : Int)) := fun _ => rfl
    have hf : fitB l.length = true := by rw [hl]; exact fit_yes hk
    have hpos : 1 ≤ 2 ^ k := Nat.one_le_two_pow
    have hpb := two_pow_big (show k ≤ 7 by omega)
    have e2 : 2 ^ (k + 1) = 2 * 2 ^ k := by rw [Nat.pow_succ]; omega
    have d1 : decide ((l.length : Int) = 1) = false := decide_eq_false (by omega)
    have hd : (l.length : Int) / 2 = ((2 ^ k : Nat) : Int) := by omega
    obtain ⟨ht, hdr⟩ := half_len hl
    have ih1 := refrootOk_c k (l.take (2 ^ k)) ht (by omega) (fun x hx => h32 x (List.mem_of_mem_take hx))
    have ih2 := refrootOk_c k (l.drop (2 ^ k)) hdr (by omega) (fun x hx => h32 x (List.mem_of_mem_drop hx))
    have l1 := rootR_len k (l.take (2 ^ k)) ht (fun x hx => h32 x (List.mem_of_mem_take hx))
    have l2 := rootR_len k (l.drop (2 ^ k)) hdr (fun x hx => h32 x (List.mem_of_mem_drop hx))
    have he : rootR (k + 1) l = aboveS (rootR k (l.take (2 ^ k))) (rootR k (l.drop (2 ^ k))) := rfl
    rw [he]
    unfold heD at ih1 ih2 ⊢
    generalize rootR k (l.take (2 ^ k)) = r1 at *
    generalize rootR k (l.drop (2 ^ k)) = r2 at *
    have hl2 : (l.length : Int) = ((2 * 2 ^ k : Nat) : Int) := by omega
    generalize 2 ^ k = w at *
    have hX := and_true; refine PC_atX Tryd.func15 rfl Tryd.ntmps15 Tryd.results15 rfl (by simp only [argsL, Nat.reduceAdd, u32D, u8D, iD, bD, strD, u32_xor, u32_or, u32_and, u32_add, u32_not, u32_shr, u32_shl, u8_u32, u32_u8]; exact rfl) ?_; intro w0 A
    have hX := And.intro hsD_eq (And.intro hh (And.intro hf (And.intro d1 (hd))))
    have hK := And.intro (reffits_c l.length) (And.intro (ih1) (And.intro (ih2) (And.intro (refabove_c r1 r2 l1 l2) trivial))); (repeat refine DX_seq ?_); refine rgx [0, 2] ?_
    (repeat refine DX_seq ?_); refine rgx [0, 2, 4] ?_
    (repeat refine DX_seq ?_); refine rgx [0, 2, 4, 13] ?_
    (repeat refine DX_seq ?_); refine iffx ?_
    (repeat refine DX_seq ?_); refine DX_skip ?_
    (repeat refine DX_seq ?_); refine rgx [0, 2, 4, 16] ?_
    (repeat refine DX_seq ?_); refine iffx ?_
    (repeat refine DX_seq ?_); refine DX_skip ?_
    (repeat refine DX_seq ?_); refine rgx [0, 2, 4, 5] ?_
    (repeat refine DX_seq ?_); refine rgx [2, 5, 7] ?_
    (repeat refine DX_seq ?_); refine rgx [2, 3] ?_
    (repeat refine DX_seq ?_); refine DX_ret ?_; refine retx ?_; (try dsimp only [outV, unlist])
    exact Fin_pure rfl
end Go.Proofs.YtedioenakmgdiaaDoor

namespace Go.Proofs.YtedioenakmgdiaaDoor
set_option linter.unusedSimpArgs false
set_option linter.unusedVariables false
set_option maxRecDepth 10000
open Go.RowKit
def hashT : Nat := 24
theorem pathR_len : ∀ (k : Nat) (l : List (List UInt8)) (i : Nat), (pathR k l i).length = k
  | 0, _, _ => rfl
  | k + 1, l, i => by simp only [pathR]; split <;> simp [pathR_len k]
/-- sums in an own row, and whether -/
def ppD (n : Nat) (e : Int) : D := .tup (.cons (.own 0 n 24 32) (.cons (iD e) .nil))
theorem FinH_nil {E : Env} {n : Nat} (T sz : Nat) (hn : Nat.blt 0 n = true) {e : D} : FinH E n [] [] (.tup (.cons (.v (.slice none 0 0)) (.cons e .nil))) (.tup (.cons (.own 0 0 T sz) (.cons e .nil))) [some (.row [] T sz)] := by
  refine FinH.of_weak hn fun _ _ _ _ => (Weak.nil_row T sz).trans fun bs a w hr => ⟨bs, hr.defers, hr.size, fun t => ?_, hr.wr⟩
  have h := hr.slots t
  simp only [mk, look] at h ⊢
  split
  · rename_i h0
    rw [if_pos h0] at h
    obtain ⟨vs, h1, h2⟩ := h
    refine ⟨vs, h1, ?_⟩
    cases hv : vs.toList with
    | nil => rw [hv] at h2; exact h2.elim
    | cons a b =>
      rw [hv] at h2
      obtain ⟨p1, p2⟩ := h2
      refine ⟨?_, p2⟩
      have hx' : RV _ w bs a (.v (.slice none 0 0)) := p1
      rw [(RV_v hx').1]
      exact R1.own0
  · trivial
set_option maxHeartbeats 8000000 in
theorem refpathOk_c : ∀ (k : Nat) (l : List (List UInt8)) (i : Nat), l.length = 2 ^ k → k ≤ 7 → (∀ x ∈ l, x.length = 32) → i < 2 ^ k → PH (envOf Tryd.prog) 17 [hsD l, iD (i : Int)] [] (ppD k 0) [some (.row ((pathR k l i).map hashD) 24 32)]
  | 0, l, i, hl, hk, h32, hi => by
    have hf : fitB l.length = true := by rw [hl]; exact fit_yes hk
    have d1 := nat_lt0' i
    have d2 : decide ((l.length : Int) ≤ (i : Int)) = false := decide_eq_false (by omega)
    have d3 : decide ((l.length : Int) = 1) = true := decide_eq_true (by rw [hl]; rfl)
    unfold ppD
    have hX := and_true; refine PN0_at Tryd.func17 rfl Tryd.ntmps17 Tryd.results17 rfl (by simp only [argsL, Nat.reduceAdd, u32D, u8D, iD, bD, strD, u32_xor, u32_or, u32_and, u32_add, u32_not, u32_shr, u32_shl, u8_u32, u32_u8]; exact rfl) ?_; intro w0 A
    have hX := And.intro hsD_eq (And.intro hf (And.intro d1 (And.intro d2 (d3))))
    have hK := And.intro (reffits_c l.length) trivial; (repeat refine DX_seq ?_); refine rgx [0, 1] ?_
    (repeat refine DX_seq ?_); refine rgx [0, 1, 6] ?_
    (repeat refine DX_seq ?_); refine rggx [0, 1, 6, 30] ?_
    (repeat refine DX_seq ?_); refine iffx ?_
    (repeat refine DX_seq ?_); refine DX_skip ?_
    (repeat refine DX_seq ?_); refine rgx [0, 1, 6, 32] ?_
    (repeat refine DX_seq ?_); refine iftx ?_
    (repeat refine DX_seq ?_); refine rgx [4, 5] ?_
    (repeat refine DX_seq ?_); refine DX_ret ?_; refine retx ?_; (try dsimp only [outV, unlist])
    exact FinH_nil _ _ rfl
  | k + 1, l, i, hl, hk, h32, hi => by
    have hh : ∀ h, hashD h = .arr .u8 32 (fun i => ((h.getD i 0).toNat : Int)) := fun _ => rfl
    have hf : fitB l.length = true := by rw [hl]; exact fit_yes hk
    have hpos : 1 ≤ 2 ^ k := Nat.one_le_two_pow
    have hpb := two_pow_big (show k ≤ 7 by omega)
    have e2 : 2 ^ (k + 1) = 2 * 2 ^ k := by rw [Nat.pow_succ]; omega
    have d1 := nat_lt0' i
    have d2 : decide ((l.length : Int) ≤ (i : Int)) = false := decide_eq_false (by omega)
    have d3 : decide ((l.length : Int) = 1) = false := decide_eq_false (by omega)
    have hd : (l.length : Int) / 2 = ((2 ^ k : Nat) : Int) := by omega
    obtain ⟨ht, hdr⟩ := half_len hl
    have m1 : ∀ x ∈ l.take (2 ^ k), x.length = 32 := fun x hx => h32 x (List.mem_of_mem_take hx)
    have m2 : ∀ x ∈ l.drop (2 ^ k), x.length = 32 := fun x hx => h32 x (List.mem_of_mem_drop hx)
    by_cases hc : i < 2 ^ k
    · have ih1 := refpathOk_c k (l.take (2 ^ k)) i ht (by omega) m1 hc
      have ih2 := refrootOk_c k (l.drop (2 ^ k)) hdr (by omega) m2
      have hpl := pathR_len k (l.take (2 ^ k)) i
      have he : pathR (k + 1) l i = pathR k (l.take (2 ^ k)) i ++ [rootR k (l.drop (2 ^ k))] := by simp only [pathR, if_pos hc]
      have d4 : decide ((i : Int) < ((2 ^ k : Nat) : Int)) = true := decide_eq_true (by omega)
      rw [he]
      unfold heD at ih2
      unfold ppD at ih1 ⊢
      have hl2 : (l.length : Int) = ((2 * 2 ^ k : Nat) : Int) := by omega
      generalize pathR k (l.take (2 ^ k)) i = p1 at *
      generalize rootR k (l.drop (2 ^ k)) = r2 at *
      generalize 2 ^ k = w at *
      have hX := and_true; refine PN0_at Tryd.func17 rfl Tryd.ntmps17 Tryd.results17 rfl (by simp only [argsL, Nat.reduceAdd, u32D, u8D, iD, bD, strD, u32_xor, u32_or, u32_and, u32_add, u32_not, u32_shr, u32_shl, u8_u32, u32_u8]; exact rfl) ?_; intro w0 A
      have hX := And.intro hsD_eq (And.intro hh (And.intro hf (And.intro d1 (And.intro d2 (And.intro d3 (And.intro hd (d4)))))))
      (repeat refine DX_seq ?_); refine DX_reg [0, 1] ?_; intro w0 A S0 f0; (repeat ((with_reducible show DR _ _ _ (_ :: _) _); first | (refine cx _ (envG _ _ _ _ _ _) rfl rfl rfl rfl rfl ?_ (hc := by first | exact reffits_c l.length | exact ih2)) | (refine ex rfl (docalln (envG _ _ _ _ _ _) rfl rfl rfl (hc := by first | exact ih1)) ?_) | (refine sx ?_))); refine DR_nil ?_; refine kl1 ?_
      (repeat refine DX_seq ?_); refine DX_reg [0, 1, 6] ?_; intro w0 A S0 f0; (repeat ((with_reducible show DR _ _ _ (_ :: _) _); first | (refine cx _ (envG _ _ _ _ _ _) rfl rfl rfl rfl rfl ?_ (hc := by first | exact reffits_c l.length | exact ih2)) | (refine ex rfl (docalln (envG _ _ _ _ _ _) rfl rfl rfl (hc := by first | exact ih1)) ?_) | (refine sx ?_))); refine DR_nil ?_; refine kl1 ?_
      (repeat refine DX_seq ?_); refine DX_reg [0, 1, 6, 30] ?_; intro w0 A S0 f0; (repeat (first | (refine gtx rfl rfl ?_) | (refine gx ?_) | ((with_reducible show DR _ _ _ (_ :: _) _); first | (refine cx _ (envG _ _ _ _ _ _) rfl rfl rfl rfl rfl ?_ (hc := by first | exact reffits_c l.length | exact ih2)) | (refine ex rfl (docalln (envG _ _ _ _ _ _) rfl rfl rfl (hc := by first | exact ih1)) ?_) | (refine sx ?_)))); refine DR_nil ?_; refine kl1 ?_
      (repeat refine DX_seq ?_); refine iffx ?_
      (repeat refine DX_seq ?_); refine DX_skip ?_
      (repeat refine DX_seq ?_); refine DX_reg [0, 1, 6, 32] ?_; intro w0 A S0 f0; (repeat ((with_reducible show DR _ _ _ (_ :: _) _); first | (refine cx _ (envG _ _ _ _ _ _) rfl rfl rfl rfl rfl ?_ (hc := by first | exact reffits_c l.length | exact ih2)) | (refine ex rfl (docalln (envG _ _ _ _ _ _) rfl rfl rfl (hc := by first | exact ih1)) ?_) | (refine sx ?_))); refine DR_nil ?_; refine kl1 ?_
      (repeat refine DX_seq ?_); refine iffx ?_
      (repeat refine DX_seq ?_); refine DX_skip ?_
      (repeat refine DX_seq ?_); refine DX_drwq [1, 6, 7, 8] (by kernel_rfl) ?_; intro w0 A S0 f0; (repeat ((with_reducible show DRq _ _ _ (_ :: _) _); first | (refine cxq _ (envG _ _ _ _ _ _) rfl rfl rfl rfl rfl ?_ (hc := by first | exact reffits_c l.length | exact ih2)) | (refine sxq ?_))); refine DRq_nil ?_; refine kl1 ?_
      (repeat refine DX_seq ?_); refine DX_reg [1, 6, 7, 8, 44] ?_; intro w0 A S0 f0; (repeat ((with_reducible show DR _ _ _ (_ :: _) _); first | (refine cx _ (envG _ _ _ _ _ _) rfl rfl rfl rfl rfl ?_ (hc := by first | exact reffits_c l.length | exact ih2)) | (refine ex rfl (docalln (envG _ _ _ _ _ _) rfl rfl rfl (hc := by first | exact ih1)) ?_) | (refine sx ?_))); refine DR_nil ?_; refine kl1 ?_
      (repeat refine DX_seq ?_); refine iftx ?_
      (repeat refine DX_seq ?_); refine DX_reg [8, 9] ?_; intro w0 A S0 f0; (repeat ((with_reducible show DR _ _ _ (_ :: _) _); first | (refine cx _ (envG _ _ _ _ _ _) rfl rfl rfl rfl rfl ?_ (hc := by first | exact reffits_c l.length | exact ih2)) | (refine ex rfl (docalln (envG _ _ _ _ _ _) rfl rfl rfl (hc := by first | exact ih1)) ?_) | (refine sx ?_))); refine DR_nil ?_; refine kl1 ?_
      (repeat refine DX_seq ?_); refine DX_reg [9, 11] ?_; intro w0 A S0 f0; (repeat ((with_reducible show DR _ _ _ (_ :: _) _); first | (refine cx _ (envG _ _ _ _ _ _) rfl rfl rfl rfl rfl ?_ (hc := by first | exact reffits_c l.length | exact ih2)) | (refine ex rfl (docalln (envG _ _ _ _ _ _) rfl rfl rfl (hc := by first | exact ih1)) ?_) | (refine sx ?_))); refine DR_nil ?_; refine kl1 ?_
      (repeat refine DX_seq ?_); refine DX_reg [4, 5] ?_; intro w0 A S0 f0; (repeat ((with_reducible show DR _ _ _ (_ :: _) _); first | (refine cx _ (envG _ _ _ _ _ _) rfl rfl rfl rfl rfl ?_ (hc := by first | exact reffits_c l.length | exact ih2)) | (refine ex rfl (docalln (envG _ _ _ _ _ _) rfl rfl rfl (hc := by first | exact ih1)) ?_) | (refine sx ?_))); refine DR_nil ?_; refine kl1 ?_
      (repeat refine DX_seq ?_); refine DX_ret ?_; refine retx ?_; (try dsimp only [outV, unlist])
      exact FinH.of_weak rfl (WeakX.take 1 rfl rfl (by simp [hh, mk]))
    · have ih1 := refpathOk_c k (l.drop (2 ^ k)) (i - 2 ^ k) hdr (by omega) m2 (by omega)
      have ih2 := refrootOk_c k (l.take (2 ^ k)) ht (by omega) m1
      have hpl := pathR_len k (l.drop (2 ^ k)) (i - 2 ^ k)
      have he : pathR (k + 1) l i = pathR k (l.drop (2 ^ k)) (i - 2 ^ k) ++ [rootR k (l.take (2 ^ k))] := by simp only [pathR, if_neg hc]
      have d4 : decide ((i : Int) < ((2 ^ k : Nat) : Int)) = false := decide_eq_false (by omega)
      have hs : (i : Int) - ((2 ^ k : Nat) : Int) = ((i - 2 ^ k : Nat) : Int) := by omega
      rw [he]
      unfold heD at ih2
      unfold ppD at ih1 ⊢
      have hl2 : (l.length : Int) = ((2 * 2 ^ k : Nat) : Int) := by omega
      generalize pathR k (l.drop (2 ^ k)) (i - 2 ^ k) = p1 at *
      generalize rootR k (l.take (2 ^ k)) = r2 at *
      generalize 2 ^ k = w at *
      have hX := and_true; refine PN0_at Tryd.func17 rfl Tryd.ntmps17 Tryd.results17 rfl (by simp only [argsL, Nat.reduceAdd, u32D, u8D, iD, bD, strD, u32_xor, u32_or, u32_and, u32_add, u32_not, u32_shr, u32_shl, u8_u32, u32_u8]; exact rfl) ?_; intro w0 A
      have hX := And.intro hsD_eq (And.intro hh (And.intro hf (And.intro d1 (And.intro d2 (And.intro d3 (And.intro hd (And.intro d4 (hs))))))))
      (repeat refine DX_seq ?_); refine DX_reg [0, 1] ?_; intro w0 A S0 f0; (repeat ((with_reducible show DR _ _ _ (_ :: _) _); first | (refine cx _ (envG _ _ _ _ _ _) rfl rfl rfl rfl rfl ?_ (hc := by first | exact reffits_c l.length | exact ih2)) | (refine ex rfl (docalln (envG _ _ _ _ _ _) rfl rfl rfl (hc := by first | exact ih1)) ?_) | (refine sx ?_))); refine DR_nil ?_; refine kl1 ?_
      (repeat refine DX_seq ?_); refine DX_reg [0, 1, 6] ?_; intro w0 A S0 f0; (repeat ((with_reducible show DR _ _ _ (_ :: _) _); first | (refine cx _ (envG _ _ _ _ _ _) rfl rfl rfl rfl rfl ?_ (hc := by first | exact reffits_c l.length | exact ih2)) | (refine ex rfl (docalln (envG _ _ _ _ _ _) rfl rfl rfl (hc := by first | exact ih1)) ?_) | (refine sx ?_))); refine DR_nil ?_; refine kl1 ?_
      (repeat refine DX_seq ?_); refine DX_reg [0, 1, 6, 30] ?_; intro w0 A S0 f0; (repeat (first | (refine gtx rfl rfl ?_) | (refine gx ?_) | ((with_reducible show DR _ _ _ (_ :: _) _); first | (refine cx _ (envG _ _ _ _ _ _) rfl rfl rfl rfl rfl ?_ (hc := by first | exact reffits_c l.length | exact ih2)) | (refine ex rfl (docalln (envG _ _ _ _ _ _) rfl rfl rfl (hc := by first | exact ih1)) ?_) | (refine sx ?_)))); refine DR_nil ?_; refine kl1 ?_
      (repeat refine DX_seq ?_); refine iffx ?_
      (repeat refine DX_seq ?_); refine DX_skip ?_
      (repeat refine DX_seq ?_); refine DX_reg [0, 1, 6, 32] ?_; intro w0 A S0 f0; (repeat ((with_reducible show DR _ _ _ (_ :: _) _); first | (refine cx _ (envG _ _ _ _ _ _) rfl rfl rfl rfl rfl ?_ (hc := by first | exact reffits_c l.length | exact ih2)) | (refine ex rfl (docalln (envG _ _ _ _ _ _) rfl rfl rfl (hc := by first | exact ih1)) ?_) | (refine sx ?_))); refine DR_nil ?_; refine kl1 ?_
      (repeat refine DX_seq ?_); refine iffx ?_
      (repeat refine DX_seq ?_); refine DX_skip ?_
      (repeat refine DX_seq ?_); refine DX_drwq [1, 6, 7, 8] (by kernel_rfl) ?_; intro w0 A S0 f0; (repeat ((with_reducible show DRq _ _ _ (_ :: _) _); first | (refine cxq _ (envG _ _ _ _ _ _) rfl rfl rfl rfl rfl ?_ (hc := by first | exact reffits_c l.length | exact ih2)) | (refine sxq ?_))); refine DRq_nil ?_; refine kl1 ?_
      (repeat refine DX_seq ?_); refine DX_reg [1, 6, 7, 8, 44] ?_; intro w0 A S0 f0; (repeat ((with_reducible show DR _ _ _ (_ :: _) _); first | (refine cx _ (envG _ _ _ _ _ _) rfl rfl rfl rfl rfl ?_ (hc := by first | exact reffits_c l.length | exact ih2)) | (refine ex rfl (docalln (envG _ _ _ _ _ _) rfl rfl rfl (hc := by first | exact ih1)) ?_) | (refine sx ?_))); refine DR_nil ?_; refine kl1 ?_
      (repeat refine DX_seq ?_); refine iffx ?_
      (repeat refine DX_seq ?_); refine DX_skip ?_
      (repeat refine DX_seq ?_); refine DX_reg [7, 13] ?_; intro w0 A S0 f0; (repeat ((with_reducible show DR _ _ _ (_ :: _) _); first | (refine cx _ (envG _ _ _ _ _ _) rfl rfl rfl rfl rfl ?_ (hc := by first | exact reffits_c l.length | exact ih2)) | (refine ex rfl (docalln (envG _ _ _ _ _ _) rfl rfl rfl (hc := by first | exact ih1)) ?_) | (refine sx ?_))); refine DR_nil ?_; refine kl1 ?_
      (repeat refine DX_seq ?_); refine DX_reg [13, 15] ?_; intro w0 A S0 f0; (repeat ((with_reducible show DR _ _ _ (_ :: _) _); first | (refine cx _ (envG _ _ _ _ _ _) rfl rfl rfl rfl rfl ?_ (hc := by first | exact reffits_c l.length | exact ih2)) | (refine ex rfl (docalln (envG _ _ _ _ _ _) rfl rfl rfl (hc := by first | exact ih1)) ?_) | (refine sx ?_))); refine DR_nil ?_; refine kl1 ?_
      (repeat refine DX_seq ?_); refine DX_reg [4, 5] ?_; intro w0 A S0 f0; (repeat ((with_reducible show DR _ _ _ (_ :: _) _); first | (refine cx _ (envG _ _ _ _ _ _) rfl rfl rfl rfl rfl ?_ (hc := by first | exact reffits_c l.length | exact ih2)) | (refine ex rfl (docalln (envG _ _ _ _ _ _) rfl rfl rfl (hc := by first | exact ih1)) ?_) | (refine sx ?_))); refine DR_nil ?_; refine kl1 ?_
      (repeat refine DX_seq ?_); refine DX_ret ?_; refine retx ?_; (try dsimp only [outV, unlist])
      exact FinH.of_weak rfl (WeakX.take 1 rfl rfl (by simp [hh, mk]))
set_option maxHeartbeats 4000000 in
theorem refpathNo_c (l : List (List UInt8)) (i : Int) (hf : fitB l.length = false ∨ i < 0 ∨ (l.length : Int) ≤ i) : PC (envOf Tryd.prog) 17 [hsD l, iD i] (psD [] 1) := by
  unfold psD
  cases hb : fitB l.length with
  | false =>
    have hX := and_true; refine PC_atX Tryd.func17 rfl Tryd.ntmps17 Tryd.results17 rfl (by simp only [argsL, Nat.reduceAdd, u32D, u8D, iD, bD, strD, u32_xor, u32_or, u32_and, u32_add, u32_not, u32_shr, u32_shl, u8_u32, u32_u8]; exact rfl) ?_; intro w0 A
    have hX := And.intro hsD_eq (hb)
    have hK := And.intro (reffits_c l.length) trivial; (repeat refine DX_seq ?_); refine rgx [0, 1] ?_
    (repeat refine DX_seq ?_); refine rgx [0, 1, 6] ?_
    (repeat refine DX_seq ?_); refine rggx [0, 1, 6, 30] ?_
    (repeat refine DX_seq ?_); refine iftx ?_
    (repeat refine DX_seq ?_); refine rgx [4, 5] ?_
    (repeat refine DX_seq ?_); refine DX_ret ?_; refine retx ?_; (try dsimp only [outV, unlist])
    exact Fin_tup (.cons rfl rfl Fin_nil (.cons rfl rfl (Fin_pure rfl) .nil))
  | true =>
    by_cases h0 : i < 0
    · have d1 : decide (i < 0) = true := decide_eq_true h0
      have hX := and_true; refine PC_atX Tryd.func17 rfl Tryd.ntmps17 Tryd.results17 rfl (by simp only [argsL, Nat.reduceAdd, u32D, u8D, iD, bD, strD, u32_xor, u32_or, u32_and, u32_add, u32_not, u32_shr, u32_shl, u8_u32, u32_u8]; exact rfl) ?_; intro w0 A
      have hX := And.intro hsD_eq (And.intro hb (d1))
      have hK := And.intro (reffits_c l.length) trivial; (repeat refine DX_seq ?_); refine rgx [0, 1] ?_
      (repeat refine DX_seq ?_); refine rgx [0, 1, 6] ?_
      (repeat refine DX_seq ?_); refine rggx [0, 1, 6, 30] ?_
      (repeat refine DX_seq ?_); refine iftx ?_
      (repeat refine DX_seq ?_); refine rgx [4, 5] ?_
      (repeat refine DX_seq ?_); refine DX_ret ?_; refine retx ?_; (try dsimp only [outV, unlist])
      exact Fin_tup (.cons rfl rfl Fin_nil (.cons rfl rfl (Fin_pure rfl) .nil))
    · have d1 : decide (i < 0) = false := decide_eq_false h0
      have d2 : decide ((l.length : Int) ≤ i) = true := decide_eq_true (by
        rcases hf with h | h | h
        · rw [hb] at h; cases h
        · omega
        · exact h)
      have hX := and_true; refine PC_atX Tryd.func17 rfl Tryd.ntmps17 Tryd.results17 rfl (by simp only [argsL, Nat.reduceAdd, u32D, u8D, iD, bD, strD, u32_xor, u32_or, u32_and, u32_add, u32_not, u32_shr, u32_shl, u8_u32, u32_u8]; exact rfl) ?_; intro w0 A
      have hX := And.intro hsD_eq (And.intro hb (And.intro d1 (d2)))
      have hK := And.intro (reffits_c l.length) trivial; (repeat refine DX_seq ?_); refine rgx [0, 1] ?_
      (repeat refine DX_seq ?_); refine rgx [0, 1, 6] ?_
      (repeat refine DX_seq ?_); refine rggx [0, 1, 6, 30] ?_
      (repeat refine DX_seq ?_); refine iftx ?_
      (repeat refine DX_seq ?_); refine rgx [4, 5] ?_
      (repeat refine DX_seq ?_); refine DX_ret ?_; refine retx ?_; (try dsimp only [outV, unlist])
      exact Fin_tup (.cons rfl rfl Fin_nil (.cons rfl rfl (Fin_pure rfl) .nil))
end Go.Proofs.YtedioenakmgdiaaDoor

namespace Go.Proofs.YtedioenakmgdiaaDoor
set_option linter.unusedSimpArgs false
set_option linter.unusedVariables false
set_option maxRecDepth 10000
open Go.RowKit
/-- a contract, for arguments that stand for more -/
theorem PC.args {E : Env} {f : FuncId} {xs ys : List D} {d : D} (h : PC E f ys d) (hx : All2 (fun a b => ∀ (w : World) (S : Nat → Prop) (v : Value), RVI w S v a → RVI w S v b) xs ys) : PC E f xs d := by
  intro w S vs hG hS hg hv
  exact h w S vs hG hS hg (All2.imp (K := fun a b => ∀ (w : World) (S : Nat → Prop) (v : Value), RVI w S v a → RVI w S v b) (fun a b c h1 h2 => h2 w S a h1) hv hx)
/-- .. from one that hands back own blocks -/
theorem PC_ofN {E : Env} {f : FuncId} {args : List D} {r d : D} {H' : List (Option Bk)} (h : PH E f args [] r H') (hf : Fin H' r d) : PC E f args d := by
  intro w S vs hG hS hg hv
  have hcall := h 0 w S [] vs (fun b hb => ⟨hS b hb, by simp⟩)
    ⟨rfl, by simp, by simp, by simp, ⟨rfl, rfl, rfl, Nat.le_refl _, fun _ _ => rfl⟩, fun b hb => ⟨⟨hS b (hg b hb), by simp⟩, hg b hb⟩, hG.gl, hG.tok, hG.mix, fun b hb => hb.1, fun i b hi => by simp [mkG, fxP] at hi⟩
    (All2.imp (K := fun a b => a = b) (fun a b c h1 h2 => by subst h2; exact RG.mono (fun x d hr => .im (hr.mono fun b hb => ⟨⟨.inl hb, hS b hb, by simp⟩, rfl⟩)) h1) hv (All2.reflP fun _ _ => rfl))
  refine hcall.mono fun e w' ⟨x, bs', he, h2, hxr⟩ => ⟨x, he, ?_, ?_⟩
  · have hfr := h2.fr
    exact ⟨hfr.os, hfr.tape, hfr.output, hfr.size, fun b hb => hfr.block b ⟨hb, by simp⟩⟩
  · exact hf (hctx E 0 [] w S []) w' bs' x (fun b hb => ⟨hb, by simp⟩) h2 hxr
theorem sl_hs (is : List Nat) (g : Nat → D) (l : List (List UInt8)) (h1 : is = List.range l.length) (h2 : ∀ i, i < l.length → g i = hashD (l.getD i [])) (w : World) (S : Nat → Prop) (v : Value) (h : RVI w S v (.sl is 0 g)) : RVI w S v (hsD l) := by
  have h' : RI w S v (.sl is 0 g) := h
  show RI w S v (.sl l ([] : List UInt8) hashD)
  have hlen : is.length = l.length := by rw [h1]; simp
  cases h' with
  | sl0 =>
    have : l = [] := by simpa using hlen.symm
    subst this
    exact .sl0
  | sl sz xs hb hcap hs hx hc =>
    rename_i b off cap
    have hg : ∀ i, i < l.length → g (is.getD i 0) = hashD (l.getD i []) := fun i hi => by
      rw [h1, List.getD_eq_getElem?_getD, List.getElem?_range hi]
      exact h2 i hi
    have key : RI w S (.slice (some ⟨b, off, none⟩) l.length cap) (.sl l ([] : List UInt8) hashD) := .sl sz xs hb (by omega) (fun i hi => by rw [← hg i hi]; exact hs i (by omega)) (fun i j hi hj => hx i j (by omega) hj) (fun i j hi hj => by rw [← hg i hi]; exact hc i j (by omega) hj)
    rw [hlen]
    exact key
theorem arg_refl (a : D) : ∀ (w : World) (S : Nat → Prop) (v : Value), RVI w S v a → RVI w S v a := fun _ _ _ h => h
def aF : List UInt8 := [97, 128, 0, 0, 0, 0, 0, 0, 0, 0, 0, 0, 0, 0, 0, 0, 0, 0, 0, 0, 0, 0, 0, 0, 0, 0, 0, 0, 0, 0, 0, 0, 0, 0, 0, 0, 0, 0, 0, 0, 0, 0, 0, 0, 0, 0, 0, 0, 0, 0, 0, 0, 0, 0, 0, 0, 0, 0, 0, 0, 0, 0, 0, 8]
def bF : List UInt8 := [98, 128, 0, 0, 0, 0, 0, 0, 0, 0, 0, 0, 0, 0, 0, 0, 0, 0, 0, 0, 0, 0, 0, 0, 0, 0, 0, 0, 0, 0, 0, 0, 0, 0, 0, 0, 0, 0, 0, 0, 0, 0, 0, 0, 0, 0, 0, 0, 0, 0, 0, 0, 0, 0, 0, 0, 0, 0, 0, 0, 0, 0, 0, 8]
theorem a_fill : fillS [97] 1 = aF := by decide +kernel
theorem b_fill : fillS [98] 1 = bF := by decide +kernel
theorem ab_run : sumW (addL (eight V0) (loopS kT (win0 aF) (eight V0))) ≠ sumW (addL (eight V0) (loopS kT (win0 bF) (eight V0))) := by decide +kernel
theorem a_sum : sumP [97] = sumW (addL (eight V0) (loopS kT (win0 aF) (eight V0))) := by
  rw [← add_eq, ← sumW_eq]
  have e : sumP [97] = sumB (runV (fillS [97] 1) V0 ((fillS [97] 1).length / 64)) := rfl
  rw [e, a_fill]
  rfl
theorem b_sum : sumP [98] = sumW (addL (eight V0) (loopS kT (win0 bF) (eight V0))) := by
  rw [← add_eq, ← sumW_eq]
  have e : sumP [98] = sumB (runV (fillS [98] 1) V0 ((fillS [98] 1).length / 64)) := rfl
  rw [e, b_fill]
  rfl
theorem ab_ne : sumP [97] ≠ sumP [98] := by
  rw [a_sum, b_sum]
  exact ab_run
theorem dec_l (l : List Int) : decide (l = l) = true := by simp
set_option maxHeartbeats 8000000 in
theorem lives03_c : PC (envOf Tryd.prog) 18 [] (bD true) := by
  have hh : ∀ h, hashD h = .arr .u8 32 (fun i => ((h.getD i 0).toNat : Int)) := fun _ => rfl
  have hne := ab_ne
  have ha := sumP_len [97]
  have hb := sumP_len [98]
  have ca := sum_c [97] (by decide)
  have cb := sum_c [98] (by decide)
  generalize sumP [97] = a at *
  generalize sumP [98] = b at *
  have h2 : ∀ x ∈ [a, b], x.length = 32 := by intro x hx; simp only [List.mem_cons, List.not_mem_nil, or_false] at hx; rcases hx with rfl | rfl <;> assumption
  have h1 : ∀ x ∈ [a], x.length = 32 := by intro x hx; simp only [List.mem_cons, List.not_mem_nil, or_false] at hx; subst hx; assumption
  have c1 := rootOk_c [a, b] 1 rfl (by omega) h2
  have c2 := pathOk_c [a, b] 1 1 rfl (by omega) h2 (by omega)
  have c3 := climbOk_c b [a] 1 hb (by simp) (by simp) h1
  have c4 := rootNo_c [a, b, a] rfl
  have c5 := climbNo_c b [a] 2 (.inr (.inr (by simp)))
  have c6 := rootOk_c [a] 0 rfl (by omega) h1
  have c7 := above_c a b ha hb
  have c8 := sum_c (textS a b) (by rw [textS_len ha hb]; omega)
  have c9 := sameH_c [a] [a] (by simp) h1 h1
  have e1 : rootP 1 [a, b] = aboveS a b := rfl
  have e2 : pathP 1 [a, b] 1 = [a] := rfl
  have e3 : climbP [a] 1 b = aboveS a b := rfl
  have e4 : rootP 0 [a] = a := rfl
  rw [e1] at c1
  rw [e2] at c2
  rw [e3] at c3
  rw [e4] at c6
  have e5 : sumP (textS a b) = aboveS a b := rfl
  rw [e5] at c8
  generalize aboveS a b = r at *
  have hq : decide ((List.range 32).map (fun i => ((a.getD i 0).toNat : Int)) = (List.range 32).map (fun i => ((b.getD i 0).toNat : Int))) = false := by rw [hash_eq ha hb]; exact decide_eq_false hne
  have hs9 : decide ([a] = [a]) = true := by simp
  have ea := bytes32 ha
  have eb := bytes32 hb
  have et : ([1] : List UInt8) ++ a ++ b = textS a b := rfl
  rw [hs9] at c9
  unfold heD at c1 c3 c6
  unfold hnD at c4 c5
  unfold psD at c2
  have hX := and_true; refine PC_atX Tryd.func18 rfl Tryd.ntmps18 Tryd.results18 rfl (by simp only [argsL, Nat.reduceAdd, u32D, u8D, iD, bD, strD, u32_xor, u32_or, u32_and, u32_add, u32_not, u32_shr, u32_shl, u8_u32, u32_u8]; exact rfl) ?_; intro w0 A
  have hX := And.intro hh (And.intro hsD_eq (hzD_eq))
  have hK := And.intro (ca) (And.intro (cb) trivial); (repeat refine DX_seq ?_); refine rgx [] ?_
  (repeat refine DX_seq ?_); refine rgx [1, 2] ?_
  (repeat refine DX_seq ?_); refine DX_reg [1, 2, 3, 4] ?_; intro w0 A S0 f0; (repeat ((with_reducible show DR _ _ _ (_ :: _) _); first | (refine cx _ (envG _ _ _ _ _ _) rfl rfl rfl rfl rfl ?_ (hc := by first | exact c1.args (.cons (sl_hs _ _ [a, b] rfl (fun i hi => by rcases (show i = 0 ∨ i = 1 from by simp at hi; omega) with rfl | rfl <;> rfl)) .nil)))  | (refine sx ?_))); refine DR_nil ?_; refine kl1 ?_
  (repeat refine DX_seq ?_); refine DX_reg [1, 2, 3, 4, 5, 6] ?_; intro w0 A S0 f0; (repeat ((with_reducible show DR _ _ _ (_ :: _) _); first | (refine cx _ (envG _ _ _ _ _ _) rfl rfl rfl rfl rfl ?_ (hc := by first | exact c2.args (.cons (sl_hs _ _ [a, b] rfl (fun i hi => by rcases (show i = 0 ∨ i = 1 from by simp at hi; omega) with rfl | rfl <;> rfl)) (.cons (arg_refl _) .nil))))  | (refine sx ?_))); refine DR_nil ?_; refine kl1 ?_
  have hK := And.intro (c3) trivial; (repeat refine DX_seq ?_); refine rgx [1, 2, 3, 4, 5, 6, 7, 8] ?_
  (repeat refine DX_seq ?_); refine DX_reg [1, 2, 3, 4, 5, 6, 7, 8, 10] ?_; intro w0 A S0 f0; (repeat ((with_reducible show DR _ _ _ (_ :: _) _); first | (refine cx _ (envG _ _ _ _ _ _) rfl rfl rfl rfl rfl ?_ (hc := by first | exact c4.args (.cons (sl_hs _ _ [a, b, a] rfl (fun i hi => by rcases (show i = 0 ∨ i = 1 ∨ i = 2 from by simp at hi; omega) with rfl | rfl | rfl <;> rfl)) .nil)))  | (refine sx ?_))); refine DR_nil ?_; refine kl1 ?_
  have hK := And.intro (c5) trivial; (repeat refine DX_seq ?_); refine rgx [1, 2, 3, 4, 5, 6, 7, 8, 10, 12] ?_
  (repeat refine DX_seq ?_); refine DX_reg [1, 2, 3, 4, 5, 6, 7, 8, 10, 12, 13, 14] ?_; intro w0 A S0 f0; (repeat ((with_reducible show DR _ _ _ (_ :: _) _); first | (refine cx _ (envG _ _ _ _ _ _) rfl rfl rfl rfl rfl ?_ (hc := by first | exact c6.args (.cons (sl_hs _ _ [a] rfl (fun i hi => by rcases (show i = 0 from by simp at hi; omega) with rfl; rfl)) .nil)))  | (refine sx ?_))); refine DR_nil ?_; refine kl1 ?_
  have hX := And.intro hh (And.intro hsD_eq (And.intro hzD_eq (And.intro hq (And.intro dec_l (And.intro ea (And.intro eb (et)))))))
  (repeat refine DX_seq ?_); refine DX_drwq [0] (by kernel_rfl) ?_; intro w0 A S0 f0; (repeat (first | (refine gtxq rfl rfl ?_) | (refine gxq ?_) | ((with_reducible show DRq _ _ _ (_ :: _) _); first | (refine cxq _ (envG _ _ _ _ _ _) rfl rfl rfl rfl rfl ?_ (hc := by first | exact c7 | exact c8 | exact c9.args (.cons (arg_refl _) (.cons (sl_hs _ _ [a] rfl (fun i hi => by rcases (show i = 0 from by simp at hi; omega) with rfl; rfl)) .nil)))) | (refine sxq ?_)))); refine DRq_nil ?_; refine kl1 ?_
  (repeat refine DX_seq ?_); refine DX_ret ?_; refine retx ?_; (try dsimp only [outV, unlist])
  exact Fin_pure rfl
end Go.Proofs.YtedioenakmgdiaaDoor

namespace Go.Proofs.YtedioenakmgdiaaDoor
set_option linter.unusedSimpArgs false
set_option linter.unusedVariables false
set_option maxRecDepth 10000
open Go.RowKit
theorem hz_hash : hzD = hashD [] := rfl
theorem hn_he : hnD = heD [] 1 := rfl
theorem dec_i (e : Int) : decide (e = e) = true := by simp
theorem Fin_ps {k : Nat} {p : List (List UInt8)} (hp : p.length = k) (e : Int) : Fin [some (.row (p.map hashD) 24 32)] (ppD k e) (psD p e) := by
  unfold ppD psD
  refine Fin_tup (.cons rfl rfl (Fin_elems rfl (by simp only [elems, List.getElem?_cons_zero]; exact rfl) (by simp [hp]) ?_ (fun _ => rfl)) (.cons rfl rfl (Fin_pure rfl) .nil))
  rw [List.take_of_length_le (by simp [hp])]
theorem pathP_all : ∀ (k : Nat) (l : List (List UInt8)) (i : Nat), l.length = 2 ^ k → i < 2 ^ k → (∀ x ∈ l, x.length = 32) → ∀ x ∈ pathP k l i, x.length = 32
  | 0, _, _, _, _, _, x, hx => by cases hx
  | k + 1, l, i, hl, hi, h32, x, hx => by
    have e2 : 2 ^ (k + 1) = 2 * 2 ^ k := by rw [Nat.pow_succ]; omega
    simp only [pathP, List.mem_cons] at hx
    rcases hx with rfl | hx
    · exact getD_all h32 (by unfold flip1; split <;> omega)
    · exact pathP_all k (upS l) (i / 2) (by rw [upS_len]; omega) (by omega) (upS_all l) x hx
theorem root_ex (l : List (List UInt8)) (h32 : ∀ x ∈ l, x.length = 32) : ∃ (a : List UInt8) (e : Int), PC (envOf Tryd.prog) 14 [hsD l] (heD a e) ∧ PC (envOf Tryd.prog) 15 [hsD l] (heD a e) := by
  cases hf : fitB l.length with
  | false => exact ⟨[], 1, rootNo_c l hf, refrootNo_c l hf⟩
  | true =>
    obtain ⟨k, hk, hl⟩ := fit_pow hf
    exact ⟨rootP k l, 0, rootOk_c l k hl hk h32, root_eq k l hl ▸ refrootOk_c k l hl hk h32⟩
theorem path_ex (l : List (List UInt8)) (i : Int) (h32 : ∀ x ∈ l, x.length = 32) : ∃ (p : List (List UInt8)) (e : Int), p.length ≤ 7 ∧ (∀ x ∈ p, x.length = 32) ∧ PC (envOf Tryd.prog) 16 [hsD l, iD i] (psD p e) ∧ PC (envOf Tryd.prog) 17 [hsD l, iD i] (psD p e) := by
  by_cases hno : fitB l.length = false ∨ i < 0 ∨ (l.length : Int) ≤ i
  · exact ⟨[], 1, by simp, fun x hx => (by cases hx), pathNo_c l i hno, refpathNo_c l i hno⟩
  · have hf : fitB l.length = true := by
      cases h : fitB l.length with
      | true => rfl
      | false => exact absurd (.inl h) hno
    obtain ⟨k, hk, hl⟩ := fit_pow hf
    obtain ⟨n, rfl⟩ : ∃ n : Nat, i = (n : Int) := ⟨i.toNat, by omega⟩
    have hn : n < 2 ^ k := by omega
    refine ⟨pathP k l n, 0, by rw [pathP_len]; exact hk, pathP_all k l n hl hn h32, pathOk_c l k n hl hk h32 hn, ?_⟩
    rw [path_eq k l n hl hn]
    exact PC_ofN (refpathOk_c k l n hl hk h32 hn) (Fin_ps (pathR_len k l n) 0)
theorem climb_ex (leaf : List UInt8) (p : List (List UInt8)) (i : Int) (hb : i ≤ 9223372036854775807) (hlf : leaf.length = 32) (h32 : ∀ x ∈ p, x.length = 32) : ∃ (a : List UInt8) (e : Int), PC (envOf Tryd.prog) 20 [hashD leaf, iD i, hsD p] (heD a e) ∧ PC (envOf Tryd.prog) 21 [hashD leaf, iD i, hsD p] (heD a e) ∧
    ((e = 1 ∧ (7 < p.length ∨ i < 0 ∨ ((2 ^ p.length : Nat) : Int) ≤ i)) ∨ (e = 0 ∧ p.length ≤ 7 ∧ ∃ n : Nat, i = (n : Int) ∧ n < 2 ^ p.length ∧ a = climbP p n leaf)) := by
  by_cases hno : 7 < p.length ∨ i < 0 ∨ ((2 ^ p.length : Nat) : Int) ≤ i
  · exact ⟨[], 1, climbNo_c leaf p i hno, refclimbNo_c leaf p i hlf h32 hb hno, .inl ⟨rfl, hno⟩⟩
  · obtain ⟨n, rfl⟩ : ∃ n : Nat, i = (n : Int) := ⟨i.toNat, by omega⟩
    have hn : n < 2 ^ p.length := by omega
    have hp : p.length ≤ 7 := by omega
    exact ⟨climbP p n leaf, 0, climbOk_c leaf p n hlf hp hn h32, refclimbOk_c leaf p n hlf hp hn h32, .inr ⟨rfl, hp, n, rfl, hn, rfl⟩⟩
set_option maxHeartbeats 4000000 in
theorem treeRoots_c (l : List (List UInt8)) (i : Int) (h32 : ∀ x ∈ l, x.length = 32) : PC (envOf Tryd.prog) 3 [hsD l, iD i] (bD true) := by
  have hh : ∀ h, hashD h = .arr .u8 32 (fun i => ((h.getD i 0).toNat : Int)) := fun _ => rfl
  obtain ⟨a, e, c1, c2⟩ := root_ex l h32
  obtain ⟨p, e', hpl, hp, c3, c4⟩ := path_ex l i h32
  have c5 := sameH_c p p (by omega) hp hp
  rw [show decide (p = p) = true by simp] at c5
  unfold heD at c1 c2
  unfold psD at c3 c4
  have hX := and_true; refine PC_atX Tryd.func3 rfl Tryd.ntmps3 Tryd.results3 rfl (by simp only [argsL, Nat.reduceAdd, u32D, u8D, iD, bD, strD, u32_xor, u32_or, u32_and, u32_add, u32_not, u32_shr, u32_shl, u8_u32, u32_u8]; exact rfl) ?_; intro w0 A
  have hX := And.intro hh (And.intro hsD_eq (And.intro dec_l (dec_i)))
  have hK := And.intro (lives03_c) (And.intro (c1) (And.intro (c2) (And.intro (c3) (And.intro (c4) (And.intro (c5) trivial))))); (repeat refine DX_seq ?_); refine rgx [0, 1] ?_
  (repeat refine DX_seq ?_); refine rgx [0, 1, 5, 6] ?_
  (repeat refine DX_seq ?_); refine rgx [0, 1, 5, 6, 7, 8] ?_
  (repeat refine DX_seq ?_); refine rgx [0, 1, 5, 6, 7, 8, 9, 10] ?_
  (repeat refine DX_seq ?_); refine rgx [5, 6, 7, 8, 9, 10, 11, 12] ?_
  (repeat refine DX_seq ?_); refine rggx [4] ?_
  (repeat refine DX_seq ?_); refine DX_ret ?_; refine retx ?_; (try dsimp only [outV, unlist])
  exact Fin_pure rfl
set_option maxHeartbeats 4000000 in
theorem treeClimbs_c (leaf : List UInt8) (i : Int) (p : List (List UInt8)) (other : List UInt8) (hb : i ≤ 9223372036854775807) (hlf : leaf.length = 32) (ho : other.length = 32) (h32 : ∀ x ∈ p, x.length = 32) : PC (envOf Tryd.prog) 4 [hashD leaf, iD i, hsD p, hashD other] (bD true) := by
  have hh : ∀ h, hashD h = .arr .u8 32 (fun i => ((h.getD i 0).toNat : Int)) := fun _ => rfl
  obtain ⟨a, e, c1, c2, _⟩ := climb_ex leaf p i hb hlf h32
  have c3 := above_c leaf other hlf ho
  have c4 := refabove_c leaf other hlf ho
  unfold heD at c1 c2
  have hX := and_true; refine PC_atX Tryd.func4 rfl Tryd.ntmps4 Tryd.results4 rfl (by simp only [argsL, Nat.reduceAdd, u32D, u8D, iD, bD, strD, u32_xor, u32_or, u32_and, u32_add, u32_not, u32_shr, u32_shl, u8_u32, u32_u8]; exact rfl) ?_; intro w0 A
  have hX := And.intro hh (And.intro hsD_eq (And.intro dec_l (dec_i)))
  have hK := And.intro (lives03_c) (And.intro (c1) (And.intro (c2) (And.intro (c3) (And.intro (c4) trivial)))); (repeat refine DX_seq ?_); refine rgx [1, 2, 4, 7] ?_
  (repeat refine DX_seq ?_); refine rgx [1, 2, 4, 7, 9, 10] ?_
  (repeat refine DX_seq ?_); refine rgx [4, 7, 9, 10, 11, 12] ?_
  (repeat refine DX_seq ?_); refine rqgx [8] ?_
  (repeat refine DX_seq ?_); refine DX_ret ?_; refine retx ?_; (try dsimp only [outV, unlist])
  exact Fin_pure rfl
set_option maxHeartbeats 4000000 in
theorem treeThere_c (l : List (List UInt8)) (hlb : l.length ≤ 9223372036854775807) (h32 : ∀ x ∈ l, x.length = 32) : PC (envOf Tryd.prog) 5 [hsD l] (bD true) := by
  have hh : ∀ h, hashD h = .arr .u8 32 (fun i => ((h.getD i 0).toNat : Int)) := fun _ => rfl
  cases hf : fitB l.length with
  | false =>
    have c1 := rootNo_c l hf
    have c2 := pathNo_c l 0 (.inl hf)
    unfold psD at c2
    unfold hnD at c1
    have hX := and_true; refine PC_atX Tryd.func5 rfl Tryd.ntmps5 Tryd.results5 rfl (by simp only [argsL, Nat.reduceAdd, u32D, u8D, iD, bD, strD, u32_xor, u32_or, u32_and, u32_add, u32_not, u32_shr, u32_shl, u8_u32, u32_u8]; exact rfl) ?_; intro w0 A
    have hX := And.intro hh (And.intro hsD_eq (hzD_eq))
    have hK := And.intro (lives03_c) (And.intro (c1) (And.intro (c2) trivial)); (repeat refine DX_seq ?_); refine rgx [0] ?_
    (repeat refine DX_seq ?_); refine rgx [0, 14] ?_
    (repeat refine DX_seq ?_); refine iffx ?_
    (repeat refine DX_seq ?_); refine DX_skip ?_
    (repeat refine DX_seq ?_); refine rgx [0, 3, 4] ?_
    (repeat refine DX_seq ?_); refine rgx [0, 3, 21] ?_
    (repeat refine DX_seq ?_); refine iftx ?_
    (repeat refine DX_seq ?_); refine rgx [6] ?_
    (repeat refine DX_seq ?_); refine rgx [2] ?_
    (repeat refine DX_seq ?_); refine DX_ret ?_; refine retx ?_; (try dsimp only [outV, unlist])
    exact Fin_pure rfl
  | true =>
    obtain ⟨k, hk, hl⟩ := fit_pow hf
    have hpb := two_pow_big hk
    have c1 := rootOk_c l k hl hk h32
    have hrl := rootP_len k l hl h32
    have hcp : ∀ i, i < 2 ^ k → climbP (pathP k l i) i (l.getD i []) = rootP k l := fun i hi => climb_path k l i hl hi
    generalize rootP k l = r at *
    unfold heD at c1
    have hX := and_true; refine PC_atX Tryd.func5 rfl Tryd.ntmps5 Tryd.results5 rfl (by simp only [argsL, Nat.reduceAdd, u32D, u8D, iD, bD, strD, u32_xor, u32_or, u32_and, u32_add, u32_not, u32_shr, u32_shl, u8_u32, u32_u8]; exact rfl) ?_; intro w0 A
    have hX := And.intro hh (hsD_eq)
    have hK := And.intro (lives03_c) (And.intro (c1) trivial); (repeat refine DX_seq ?_); refine rgx [0] ?_
    (repeat refine DX_seq ?_); refine rgx [0, 14] ?_
    (repeat refine DX_seq ?_); refine iffx ?_
    (repeat refine DX_seq ?_); refine DX_skip ?_
    (repeat refine DX_seq ?_); refine rgx [0, 3, 4] ?_
    (repeat refine DX_seq ?_); refine rgx [0, 3, 21] ?_
    (repeat refine DX_seq ?_); refine iffx ?_
    (repeat refine DX_seq ?_); refine DX_skip ?_
    (repeat refine DX_seq ?_); refine rgx [0, 3, 29, 30, 31] ?_
    (repeat refine DX_seq ?_); refine DX_block ?_
    (repeat refine DX_seq ?_); refine DX_loop (fun m _ st => ∃ j, j + m = 2 ^ k ∧ st = mk [(0, hsD l), (3, .ptr 0 0), (29, hsD l), (30, iD (l.length : Int)), (31, iD (j : Int))] [some (.one (hashD r))]) (2 ^ k) ⟨_, WeakX.refl _, 0, by omega, rfl⟩ ?_
    rintro m _ _ ⟨j, hj, rfl⟩
    have hX := And.intro hh (hsD_eq)
    (repeat refine DX_seq ?_); refine rgx [0, 3, 29, 30, 31, 32] ?_
    (repeat refine DX_seq ?_); refine ifx ?_ ?_
    · intro hc; (try simp only [hcs, ne_eq] at hc)
      have hjk : j < 2 ^ k := by omega
      have c2 := pathOk_c l k j hl hk h32 hjk
      have hxl := getD_all h32 (i := j) (by omega)
      have hpl := pathP_len k l j
      have c3 := climbOk_c (l.getD j []) (pathP k l j) j hxl (by rw [hpl]; exact hk) (by rw [hpl]; exact hjk) (pathP_all k l j hl hjk h32)
      rw [hcp j hjk] at c3
      have e1 : (1 : Int) * 2 ^ k = ((2 ^ k : Nat) : Int) := by simp
      have hpos : 1 ≤ 2 ^ k := Nat.one_le_two_pow
      have hln : (l.length : Int) = ((2 ^ k : Nat) : Int) := by omega
      unfold psD at c2
      unfold heD at c3
      generalize pathP k l j = p at *
      generalize hxx : l.getD j [] = x at *
      (repeat refine DX_seq ?_); refine DX_skip ?_
      (repeat refine DX_seq ?_); refine DX_block ?_
      have hX := And.intro hh (And.intro hsD_eq (And.intro hxx (And.intro hpl (And.intro e1 (And.intro hln (And.intro dec_l (dec_i)))))))
      have hK := And.intro (c2) (And.intro (c3) trivial); (repeat refine DX_seq ?_); refine rgx [0, 3, 7, 8, 29, 30, 31] ?_
      (repeat refine DX_seq ?_); refine rgx [0, 3, 7, 8, 9, 10, 29, 30, 31] ?_
      (repeat refine DX_seq ?_); refine rgx [0, 3, 9, 10, 11, 12, 29, 30, 31] ?_
      (repeat refine DX_seq ?_); refine rggx [0, 3, 29, 30, 31, 67] ?_
      (repeat refine DX_seq ?_); refine iffx ?_
      (repeat refine DX_seq ?_); refine DX_skip ?_
      (repeat refine DX_seq ?_); refine rgx [0, 3, 29, 30, 31] ?_
      exact ⟨_, m - 1, WeakX.take 1 rfl rfl rfl, by omega, j + 1, by omega, by rw [hln]; simp [iD, hsD_eq, hh]⟩
    · intro hc; (try simp only [hcs, ne_eq] at hc)
      (repeat refine DX_seq ?_); refine DX_exit ?_
      (repeat refine DX_seq ?_); refine rgx [2] ?_
      (repeat refine DX_seq ?_); refine DX_ret ?_; refine retx ?_; (try dsimp only [outV, unlist])
      exact Fin_pure rfl
theorem wayP_all : ∀ (p : List (List UInt8)) (i : Nat) (a : List UInt8), a.length = 32 → (∀ x ∈ p, x.length = 32) → ∀ t ∈ wayP p i a, t.length = 65
  | [], _, _, _, _, t, ht => by cases ht
  | x :: p, i, a, ha, h32, t, ht => by
    have hx := h32 x (by simp)
    simp only [wayP, List.mem_cons] at ht
    rcases ht with rfl | ht
    · split
      · exact textS_len ha hx
      · exact textS_len hx ha
    · exact wayP_all p _ _ (by split <;> exact aboveS_len _ _) (fun y hy => h32 y (by simp [hy])) t ht
end Go.Proofs.YtedioenakmgdiaaDoor
