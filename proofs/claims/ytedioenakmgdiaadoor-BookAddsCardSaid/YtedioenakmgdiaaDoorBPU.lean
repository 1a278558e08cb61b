/- Ways, as the document says. Sums compared; roots and paths, as the document says. Paths, as the document says. Answers that the document gives for trees. The laws of trees, walked. -/
import Derived.Test.YtedioenakmgdiaaDoorBPD
import Derived.Test.YtedioenakmgdiaaDoorBPT
namespace Go.Proofs.YtedioenakmgdiaaDoor
set_option linter.unusedSimpArgs false
set_option linter.unusedVariables false
set_option maxRecDepth 10000
open Go.RowKit
def tsD (l : List (List UInt8)) : D := .sl l ([] : List UInt8) strD
theorem tsD_eq (l : List (List UInt8)) : tsD l = .sl l ([] : List UInt8) strD := rfl
theorem dec_mod1 (x : Nat) : decide (((x : Nat) : Int) % 2 = 1) = decide (¬ x % 2 = 0) := decide_eq_decide.2 (by omega)
/-- the texts of a way, and whether it ends at a root -/
def wayD (l : List (List UInt8)) (b : Bool) : D := .tup (.cons (tsD l) (.cons (bD b) .nil))
set_option maxHeartbeats 4000000 in
theorem wayOk_c (leaf : List UInt8) (p : List (List UInt8)) (i : Nat) (hlf : leaf.length = 32) (hp : p.length ≤ 7) (hib : i ≤ 9223372036854775807) (h32 : ∀ x ∈ p, x.length = 32) : PC (envOf Tryd.prog) 24 [hashD leaf, iD (i : Int), hsD p] (wayD (wayP p i leaf) (decide (i / 2 ^ p.length = 0))) := by
  have hh : ∀ h, hashD h = .arr .u8 32 (fun i => ((h.getD i 0).toNat : Int)) := fun _ => rfl
  have d0 : decide ((7 : Int) < (p.length : Int)) = false := decide_eq_false (by omega)
  have d1 := nat_lt0' i
  unfold wayD
  have hX := and_true; refine PC_atX Tryd.func24 rfl Tryd.ntmps24 Tryd.results24 rfl (by simp only [argsL, Nat.reduceAdd, u32D, u8D, iD, bD, strD, u32_xor, u32_or, u32_and, u32_add, u32_not, u32_shr, u32_shl, u8_u32, u32_u8]; exact rfl) ?_; intro w0 A
  have hX := And.intro hsD_eq (And.intro hh (And.intro d0 (d1)))
  (repeat refine DX_seq ?_); refine rgx [1, 2, 3] ?_
  (repeat refine DX_seq ?_); refine rggx [1, 2, 3, 19] ?_
  (repeat refine DX_seq ?_); refine iffx ?_
  (repeat refine DX_seq ?_); refine DX_skip ?_
  (repeat refine DX_seq ?_); refine rgx [1, 2, 3, 8] ?_
  (repeat refine DX_seq ?_); refine rgx [1, 2, 8, 9] ?_
  (repeat refine DX_seq ?_); refine rgx [1, 8, 9, 21, 22, 23] ?_
  (repeat refine DX_seq ?_); refine DX_block ?_
  refine DX_weak (fun _ _ _ _ => Weak.nil_own 8 9 1 rfl) ?_
  refine DX_loop (fun m _ st => ∃ k, k + m = p.length ∧ st = mk [(1, iD ((i / 2 ^ k : Nat) : Int)), (8, .own 2 k 9 1), (9, .ptr 1 0), (21, hsD p), (22, iD (p.length : Int)), (23, iD (k : Int))] [some (.one (hashD leaf)), some (.one (hashD (climbP (p.take k) i leaf))), some (.row ((wayP (p.take k) i leaf).map strD) 9 1)]) p.length ⟨_, WeakX.pick [1, 8, 9, 21, 22, 23], 0, by omega, ?_⟩ ?_
  · rw [Nat.pow_zero, Nat.div_one]; rfl
  rintro m _ _ ⟨k, hk, rfl⟩
  have hX := And.intro hsD_eq (hh)
  (repeat refine DX_seq ?_); refine rgx [1, 8, 9, 21, 22, 23, 24] ?_
  (repeat refine DX_seq ?_); refine ifx ?_ ?_
  · intro hc; (try simp only [hcs, ne_eq] at hc)
    have hkn : k < p.length := by omega
    have hs := climbP_snoc (p.take k) (p.getD k []) i leaf
    have hw := wayP_snoc (p.take k) (p.getD k []) i leaf
    have hwl := wayP_len (p.take k) i leaf
    rw [List.length_take, Nat.min_eq_left (by omega)] at hwl
    rw [← take_one hkn, List.length_take, Nat.min_eq_left (by omega)] at hs hw
    have hcl := climbP_len (p.take k) i leaf hlf
    have hxl := getD_all h32 hkn
    have hdd : i / 2 ^ (k + 1) = i / 2 ^ k / 2 := by rw [Nat.pow_succ, Nat.div_div_eq_div_mul]
    have hyl : i / 2 ^ k ≤ i := Nat.div_le_self _ _
    generalize climbP (p.take k) i leaf = at' at *
    generalize hxx : p.getD k [] = x at *
    generalize i / 2 ^ k = y at *
    have s1 : (y : Int) / 2 = ((y / 2 : Nat) : Int) := by omega
    have dm := dec_mod1 y
    (repeat refine DX_seq ?_); refine DX_skip ?_
    (repeat refine DX_seq ?_); refine DX_block ?_
    have hX := And.intro hsD_eq (And.intro hh (And.intro hxx (dm)))
    have hK := And.intro (text_c at' x hcl hxl) (And.intro (text_c x at' hxl hcl) trivial); (repeat refine DX_seq ?_); refine rgx [1, 8, 9, 11, 21, 22, 23] ?_
    (repeat refine DX_seq ?_); refine rgx [1, 8, 9, 11, 12, 21, 22, 23] ?_
    (repeat refine DX_seq ?_); refine rgx [1, 8, 9, 11, 12, 21, 22, 23, 32] ?_
    (repeat refine DX_seq ?_); refine ifx ?_ ?_
    · intro hc2; have hc2 : ¬ y % 2 = 0 := by simpa using hc2
      rw [if_neg hc2] at hs hw
      have hX := And.intro hsD_eq (And.intro hh (And.intro s1 (hwl)))
      (repeat refine DX_seq ?_); refine DX_reg [1, 8, 9, 12, 21, 22, 23] ?_; intro w0 A S0 f0; (repeat ((with_reducible show DR _ _ _ (_ :: _) _); first | (refine cx _ (envG _ _ _ _ _ _) rfl rfl rfl rfl rfl ?_ (hc := by first | exact text_c x at' hxl hcl | exact refsumT_c _ (by rw [textS_len hxl hcl]; omega)))  | (refine sx ?_))); refine DR_nil ?_; refine kl1 ?_
      (repeat refine DX_seq ?_); refine DX_reg [1, 8, 9, 12, 21, 22, 23] ?_; intro w0 A S0 f0; (repeat ((with_reducible show DR _ _ _ (_ :: _) _); first | (refine cx _ (envG _ _ _ _ _ _) rfl rfl rfl rfl rfl ?_ (hc := by first | exact text_c x at' hxl hcl | exact refsumT_c _ (by rw [textS_len hxl hcl]; omega)))  | (refine sx ?_))); refine DR_nil ?_; refine kl1 ?_
      (repeat refine DX_seq ?_); refine DX_reg [1, 8, 9, 21, 22, 23] ?_; intro w0 A S0 f0; (repeat ((with_reducible show DR _ _ _ (_ :: _) _); first | (refine cx _ (envG _ _ _ _ _ _) rfl rfl rfl rfl rfl ?_ (hc := by first | exact text_c x at' hxl hcl | exact refsumT_c _ (by rw [textS_len hxl hcl]; omega)))  | (refine sx ?_))); refine DR_nil ?_; refine kl1 ?_
      (repeat refine DX_seq ?_); refine DX_reg [1, 8, 9, 21, 22, 23] ?_; intro w0 A S0 f0; (repeat ((with_reducible show DR _ _ _ (_ :: _) _); first | (refine cx _ (envG _ _ _ _ _ _) rfl rfl rfl rfl rfl ?_ (hc := by first | exact text_c x at' hxl hcl | exact refsumT_c _ (by rw [textS_len hxl hcl]; omega)))  | (refine sx ?_))); refine DR_nil ?_; refine kl1 ?_
      (repeat refine DX_seq ?_); refine DX_reg [1, 8, 9, 21, 22, 23] ?_; intro w0 A S0 f0; (repeat ((with_reducible show DR _ _ _ (_ :: _) _); first | (refine cx _ (envG _ _ _ _ _ _) rfl rfl rfl rfl rfl ?_ (hc := by first | exact text_c x at' hxl hcl | exact refsumT_c _ (by rw [textS_len hxl hcl]; omega)))  | (refine sx ?_))); refine DR_nil ?_; refine kl1 ?_
      refine ⟨_, m - 1, WeakX.take 3 rfl rfl rfl, by omega, k + 1, by omega, ?_⟩
      rw [hs, hw, hdd]; simp [iD, hsD_eq, hh, strD, aboveS, kil]
    · intro hc2; have hc2 : y % 2 = 0 := by simpa using hc2
      rw [if_pos hc2] at hs hw
      (repeat refine DX_seq ?_); refine DX_skip ?_
      have hX := And.intro hsD_eq (And.intro hh (And.intro s1 (hwl)))
      (repeat refine DX_seq ?_); refine DX_reg [1, 8, 9, 12, 21, 22, 23] ?_; intro w0 A S0 f0; (repeat ((with_reducible show DR _ _ _ (_ :: _) _); first | (refine cx _ (envG _ _ _ _ _ _) rfl rfl rfl rfl rfl ?_ (hc := by first | exact refsumT_c _ (by rw [textS_len hcl hxl]; omega)))  | (refine sx ?_))); refine DR_nil ?_; refine kl1 ?_
      (repeat refine DX_seq ?_); refine DX_reg [1, 8, 9, 21, 22, 23] ?_; intro w0 A S0 f0; (repeat ((with_reducible show DR _ _ _ (_ :: _) _); first | (refine cx _ (envG _ _ _ _ _ _) rfl rfl rfl rfl rfl ?_ (hc := by first | exact refsumT_c _ (by rw [textS_len hcl hxl]; omega)))  | (refine sx ?_))); refine DR_nil ?_; refine kl1 ?_
      (repeat refine DX_seq ?_); refine DX_reg [1, 8, 9, 21, 22, 23] ?_; intro w0 A S0 f0; (repeat ((with_reducible show DR _ _ _ (_ :: _) _); first | (refine cx _ (envG _ _ _ _ _ _) rfl rfl rfl rfl rfl ?_ (hc := by first | exact refsumT_c _ (by rw [textS_len hcl hxl]; omega)))  | (refine sx ?_))); refine DR_nil ?_; refine kl1 ?_
      (repeat refine DX_seq ?_); refine DX_reg [1, 8, 9, 21, 22, 23] ?_; intro w0 A S0 f0; (repeat ((with_reducible show DR _ _ _ (_ :: _) _); first | (refine cx _ (envG _ _ _ _ _ _) rfl rfl rfl rfl rfl ?_ (hc := by first | exact refsumT_c _ (by rw [textS_len hcl hxl]; omega)))  | (refine sx ?_))); refine DR_nil ?_; refine kl1 ?_
      refine ⟨_, m - 1, WeakX.take 3 rfl rfl rfl, by omega, k + 1, by omega, ?_⟩
      rw [hs, hw, hdd]; simp [iD, hsD_eq, hh, strD, aboveS, kil]
  · intro hc; (try simp only [hcs, ne_eq] at hc)
    obtain rfl : k = p.length := by omega
    (repeat refine DX_seq ?_); refine DX_exit ?_
    rw [List.take_length]
    have hwl := wayP_len p i leaf
    have e0 : decide (((i / 2 ^ p.length : Nat) : Int) = 0) = decide (i / 2 ^ p.length = 0) := decide_eq_decide.2 (by omega)
    have hX := And.intro hsD_eq (And.intro hh (e0))
    (repeat refine DX_seq ?_); refine rgx [6, 7] ?_
    (repeat refine DX_seq ?_); refine DX_ret ?_; refine retx ?_; (try dsimp only [outV, unlist])
    refine Fin_tup (.cons rfl rfl (Fin_elems rfl (by simp only [elems, List.getElem?_cons_zero, List.getElem?_cons_succ]; exact rfl) (by simp [hwl]) ?_ (fun _ => rfl)) (.cons rfl rfl (Fin_pure rfl) .nil))
    rw [List.take_of_length_le (by simp [hwl])]
/-- a way's root, as the document says -/
theorem div_pow_zero {i n : Nat} : i / 2 ^ n = 0 ↔ i < 2 ^ n := by
  rw [Nat.div_eq_zero_iff]
  constructor
  · rintro (h | h)
    · exact absurd h (Nat.ne_of_gt (Nat.two_pow_pos n))
    · exact h
  · intro h; exact .inr h
set_option maxHeartbeats 4000000 in
theorem refclimbOk_c (leaf : List UInt8) (p : List (List UInt8)) (i : Nat) (hlf : leaf.length = 32) (hp : p.length ≤ 7) (hi : i < 2 ^ p.length) (h32 : ∀ x ∈ p, x.length = 32) : PC (envOf Tryd.prog) 21 [hashD leaf, iD (i : Int), hsD p] (heD (climbP p i leaf) 0) := by
  have hh : ∀ h, hashD h = .arr .u8 32 (fun i => ((h.getD i 0).toNat : Int)) := fun _ => rfl
  have hpb := two_pow_big hp
  have hW := wayOk_c leaf p i hlf hp (by omega) h32
  rw [decide_eq_true (div_pow_zero.2 hi)] at hW
  have hwl := wayP_len p i leaf
  cases hpe : p with
  | nil =>
    subst hpe
    have hwn : wayP [] i leaf = [] := rfl
    rw [hwn] at hW
    unfold wayD at hW
    have hX := and_true; refine PC_atX Tryd.func21 rfl Tryd.ntmps21 Tryd.results21 rfl (by simp only [argsL, Nat.reduceAdd, u32D, u8D, iD, bD, strD, u32_xor, u32_or, u32_and, u32_add, u32_not, u32_shr, u32_shl, u8_u32, u32_u8]; exact rfl) ?_; intro w0 A
    have hX := And.intro hsD_eq (And.intro tsD_eq (hh))
    have hK := And.intro (hW) trivial; (repeat refine DX_seq ?_); refine rgx [1, 2, 3, 6] ?_
    (repeat refine DX_seq ?_); refine rgx [3, 6, 8, 9] ?_
    (repeat refine DX_seq ?_); refine rgx [3, 6, 8, 18] ?_
    (repeat refine DX_seq ?_); refine iffx ?_
    (repeat refine DX_seq ?_); refine DX_skip ?_
    (repeat refine DX_seq ?_); refine rgx [3, 6, 8, 22] ?_
    (repeat refine DX_seq ?_); refine iftx ?_
    (repeat refine DX_seq ?_); refine rgx [6, 7] ?_
    (repeat refine DX_seq ?_); refine DX_ret ?_; refine retx ?_; (try dsimp only [outV, unlist])
    exact Fin_pure rfl
  | cons x q =>
    have hcl := climb_last p i leaf (by rw [hpe]; simp)
    have hpl : 0 < p.length := by rw [hpe]; simp
    rw [← hpe]
    have hlast : ((wayP p i leaf).getD (p.length - 1) []).length ≤ 1048576 := by
      obtain ⟨q', y, hq⟩ : ∃ q' y, p = q' ++ [y] := ⟨p.dropLast, p.getLast (by rw [hpe]; simp), (List.dropLast_concat_getLast _).symm⟩
      have h1 := wayP_snoc q' y i leaf
      have hql := wayP_len q' i leaf
      have hy : y.length = 32 := h32 y (by rw [hq]; simp)
      have hc := climbP_len q' i leaf hlf
      rw [hq, h1]
      simp only [List.length_append, List.length_cons, List.length_nil, Nat.add_sub_cancel, List.getD_eq_getElem?_getD, Nat.zero_add]
      rw [List.getElem?_append_right (by omega), hql]
      simp only [Nat.sub_self, List.getElem?_cons_zero, Option.getD_some]
      split
      · rw [textS_len hc hy]; omega
      · rw [textS_len hy hc]; omega
    rw [hcl]
    unfold wayD at hW
    generalize wayP p i leaf = T at *
    have i1 : (T.length : Int) - 1 = ((p.length - 1 : Nat) : Int) := by omega
    have d0 : decide ((T.length : Int) = 0) = false := decide_eq_false (by omega)
    generalize hTT : T.getD (p.length - 1) [] = t at *
    have hX := and_true; refine PC_atX Tryd.func21 rfl Tryd.ntmps21 Tryd.results21 rfl (by simp only [argsL, Nat.reduceAdd, u32D, u8D, iD, bD, strD, u32_xor, u32_or, u32_and, u32_add, u32_not, u32_shr, u32_shl, u8_u32, u32_u8]; exact rfl) ?_; intro w0 A
    have hX := And.intro hsD_eq (And.intro tsD_eq (And.intro hh (d0)))
    have hK := And.intro (hW) (And.intro (refsumT_c t hlast) trivial); (repeat refine DX_seq ?_); refine rgx [1, 2, 3, 6] ?_
    (repeat refine DX_seq ?_); refine rgx [3, 6, 8, 9] ?_
    (repeat refine DX_seq ?_); refine rgx [3, 6, 8, 18] ?_
    (repeat refine DX_seq ?_); refine iffx ?_
    (repeat refine DX_seq ?_); refine DX_skip ?_
    (repeat refine DX_seq ?_); refine rgx [3, 6, 8, 22] ?_
    (repeat refine DX_seq ?_); refine iffx ?_
    (repeat refine DX_seq ?_); refine DX_skip ?_
    have hX := And.intro hsD_eq (And.intro tsD_eq (And.intro hh (And.intro i1 (hTT))))
    (repeat refine DX_seq ?_); refine rgx [6, 7] ?_
    (repeat refine DX_seq ?_); refine DX_ret ?_; refine retx ?_; (try dsimp only [outV, unlist])
    exact Fin_pure rfl
end Go.Proofs.YtedioenakmgdiaaDoor

namespace Go.Proofs.YtedioenakmgdiaaDoor
set_option linter.unusedSimpArgs false
set_option linter.unusedVariables false
set_option maxRecDepth 10000
open Go.RowKit
theorem hash_eq {a b : List UInt8} (ha : a.length = 32) (hb : b.length = 32) : decide ((List.range 32).map (fun i => ((a.getD i 0).toNat : Int)) = (List.range 32).map (fun i => ((b.getD i 0).toNat : Int))) = decide (a = b) := by
  refine decide_eq_decide.2 ⟨fun h => ?_, fun h => by rw [h]⟩
  apply List.ext_getElem (by omega)
  intro i h1 h2
  have := congrArg (fun l => l.getD i 0) h
  simp only [List.getD_eq_getElem?_getD, List.getElem?_map, List.getElem?_range (show i < 32 by omega), Option.map_some, Option.getD_some, List.getElem?_eq_getElem h1, List.getElem?_eq_getElem h2] at this
  exact UInt8.toNat_inj.1 (by omega)
/-! ### whether there may be so many -/
/-! ### roots -/
end Go.Proofs.YtedioenakmgdiaaDoor

namespace Go.Proofs.YtedioenakmgdiaaDoor
set_option linter.unusedSimpArgs false
set_option linter.unusedVariables false
set_option maxRecDepth 10000
open Go.RowKit
end Go.Proofs.YtedioenakmgdiaaDoor

namespace Go.Proofs.YtedioenakmgdiaaDoor
set_option linter.unusedSimpArgs false
set_option linter.unusedVariables false
set_option maxRecDepth 10000
open Go.RowKit
/-- a contract, for arguments that stand for more -/
theorem PC.args {E : Env} {f : FuncId} {xs ys : List D} {d : D} (h : PC E f ys d) (hx : All2 (fun a b => ∀ (w : World) (S : Nat → Prop) (v : Value), RVI w S v a → RVI w S v b) xs ys) : PC E f xs d := by
  intro w S vs hG hS hg hv
  exact h w S vs hG hS hg (All2.imp (K := fun a b => ∀ (w : World) (S : Nat → Prop) (v : Value), RVI w S v a → RVI w S v b) (fun a b c h1 h2 => h2 w S a h1) hv hx)
end Go.Proofs.YtedioenakmgdiaaDoor

namespace Go.Proofs.YtedioenakmgdiaaDoor
set_option linter.unusedSimpArgs false
set_option linter.unusedVariables false
set_option maxRecDepth 10000
open Go.RowKit
end Go.Proofs.YtedioenakmgdiaaDoor
