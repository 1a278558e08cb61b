/- Trees of sums: plain. Whether there may be so many leaves; what is above two. The level above. All levels. Roots and paths. Paths, walked. Ways, walked. -/
import Derived.Test.YtedioenakmgdiaaDoorBPF
import Derived.Test.YtedioenakmgdiaaDoorBPD
import Derived.Test.YtedioenakmgdiaaDoorBPG
namespace Go.Proofs.YtedioenakmgdiaaDoor
set_option linter.unusedSimpArgs false
set_option linter.unusedVariables false
set_option maxRecDepth 10000
def textS (a b : List UInt8) : List UInt8 := 1 :: (a ++ b)
def aboveS (a b : List UInt8) : List UInt8 := sumP (textS a b)
theorem aboveS_len (a b : List UInt8) : (aboveS a b).length = 32 := sumP_len _
/-! ### paths -/
/-! ### ways -/
def climbP : List (List UInt8) → Nat → List UInt8 → List UInt8
  | [], _, leaf => leaf
  | x :: p, i, leaf => climbP p (i / 2) (if i % 2 = 0 then aboveS leaf x else aboveS x leaf)
theorem climbP_len : ∀ (p : List (List UInt8)) (i : Nat) (leaf : List UInt8), leaf.length = 32 → (climbP p i leaf).length = 32
  | [], _, _, h => h
  | x :: p, i, leaf, h => climbP_len p _ _ (by split <;> exact aboveS_len _ _)
theorem climbP_snoc : ∀ (p : List (List UInt8)) (x : List UInt8) (i : Nat) (leaf : List UInt8), climbP (p ++ [x]) i leaf = if i / 2 ^ p.length % 2 = 0 then aboveS (climbP p i leaf) x else aboveS x (climbP p i leaf)
  | [], x, i, leaf => by simp [climbP]
  | y :: p, x, i, leaf => by
    simp only [List.cons_append, climbP, List.length_cons]
    rw [climbP_snoc p x, Nat.div_div_eq_div_mul, ← Nat.pow_succ']
/-- the texts that are summed on a way -/
def wayP : List (List UInt8) → Nat → List UInt8 → List (List UInt8)
  | [], _, _ => []
  | x :: p, i, leaf => (if i % 2 = 0 then textS leaf x else textS x leaf) :: wayP p (i / 2) (if i % 2 = 0 then aboveS leaf x else aboveS x leaf)
theorem wayP_len : ∀ (p : List (List UInt8)) (i : Nat) (leaf : List UInt8), (wayP p i leaf).length = p.length
  | [], _, _ => rfl
  | x :: p, i, leaf => by simp [wayP, wayP_len p]
theorem wayP_snoc : ∀ (p : List (List UInt8)) (x : List UInt8) (i : Nat) (leaf : List UInt8), wayP (p ++ [x]) i leaf = wayP p i leaf ++ [if i / 2 ^ p.length % 2 = 0 then textS (climbP p i leaf) x else textS x (climbP p i leaf)]
  | [], x, i, leaf => by simp [wayP, climbP]
  | y :: p, x, i, leaf => by
    simp only [List.cons_append, wayP, climbP, List.length_cons]
    rw [wayP_snoc p x, Nat.div_div_eq_div_mul, ← Nat.pow_succ']
theorem climb_last : ∀ (p : List (List UInt8)) (i : Nat) (leaf : List UInt8), p ≠ [] → climbP p i leaf = sumP ((wayP p i leaf).getD (p.length - 1) []) := by
  intro p i leaf hp
  obtain ⟨q, x, rfl⟩ : ∃ q x, p = q ++ [x] := ⟨p.dropLast, p.getLast hp, (List.dropLast_concat_getLast hp).symm⟩
  rw [climbP_snoc, wayP_snoc]
  have hl := wayP_len q i leaf
  simp only [List.length_append, List.length_cons, List.length_nil, Nat.add_sub_cancel, List.getD_eq_getElem?_getD]
  rw [List.getElem?_append_right (by omega), hl]
  simp only [Nat.sub_self, List.getElem?_cons_zero, Option.getD_some]
  split <;> rfl
end Go.Proofs.YtedioenakmgdiaaDoor

namespace Go.Proofs.YtedioenakmgdiaaDoor
set_option linter.unusedSimpArgs false
set_option linter.unusedVariables false
set_option maxRecDepth 10000
open Go.RowKit
def p1 (n : Nat) : Nat := (n / 2 &&& 6148914691236517205) + (n &&& 6148914691236517205)
def p2 (n : Nat) : Nat := (n / 4 &&& 3689348814741910323) + (n &&& 3689348814741910323)
def p3 (n : Nat) : Nat := n / 16 + n &&& 1085102592571150095
theorem o1 (n : Nat) (h : n ≤ 128) : ((((n : Int) / 2 ^ 1).toNat &&& 6148914691236517205 : Nat) + ((n &&& 6148914691236517205 : Nat) : Int)) % 18446744073709551616 = (p1 n : Int) ∧ p1 n ≤ 255 := by
  have : ∀ n : _root_.Fin 129, ((((n.val : Int) / 2 ^ 1).toNat &&& 6148914691236517205 : Nat) + ((n.val &&& 6148914691236517205 : Nat) : Int)) % 18446744073709551616 = (p1 n.val : Int) ∧ p1 n.val ≤ 255 := by decide +kernel
  exact this ⟨n, by omega⟩
theorem o2 (n : Nat) (h : n ≤ 255) : ((((n : Int) / 2 ^ 2).toNat &&& 3689348814741910323 : Nat) + ((n &&& 3689348814741910323 : Nat) : Int)) % 18446744073709551616 = (p2 n : Int) ∧ p2 n ≤ 128 := by
  have : ∀ n : _root_.Fin 256, ((((n.val : Int) / 2 ^ 2).toNat &&& 3689348814741910323 : Nat) + ((n.val &&& 3689348814741910323 : Nat) : Int)) % 18446744073709551616 = (p2 n.val : Int) ∧ p2 n.val ≤ 128 := by decide +kernel
  exact this ⟨n, by omega⟩
theorem o3 (n : Nat) (h : n ≤ 128) : (((((n : Int) / 2 ^ 4 + (n : Int)) % 18446744073709551616).toNat &&& 1085102592571150095 : Nat) : Int) = (p3 n : Int) ∧ p3 n ≤ 255 := by
  have : ∀ n : _root_.Fin 129, (((((n.val : Int) / 2 ^ 4 + (n.val : Int)) % 18446744073709551616).toNat &&& 1085102592571150095 : Nat) : Int) = (p3 n.val : Int) ∧ p3 n.val ≤ 255 := by decide +kernel
  exact this ⟨n, by omega⟩
theorem o4 (n : Nat) (h : n ≤ 255) (k : Nat) (hk : 8 ≤ k) : ((n : Int) + (n : Int) / 2 ^ k) % 18446744073709551616 = (n : Int) := by
  have h1 : (n : Int) / 2 ^ k = 0 := by
    apply Int.ediv_eq_zero_of_lt (by omega)
    have h2 : 2 ^ 8 ≤ 2 ^ k := Nat.pow_le_pow_right (by omega) hk
    have h3 : (2 : Int) ^ k = ((2 ^ k : Nat) : Int) := by simp
    omega
  rw [h1]; omega
theorem refsumT_c (l : List UInt8) (hl : l.length ≤ 1048576) : PC (envOf Tryd.prog) 25 [strD l] (hashD (sumP l)) := by
  have := refsum_c l hl
  rwa [← sum_eq] at this
theorem bytes32 {a : List UInt8} (ha : a.length = 32) : ((List.range 32).map fun i => D.v (.int .u8 ((a.getD i 0).toNat : Int))).map byteOf = a := by
  rw [mid_eq' a 32 (by omega), List.take_of_length_le (by omega)]
theorem bytesDT {a : List UInt8} (ha : a.length = 32) : ((List.range 32).map fun i => D.v (.int .u8 ((a.getD i 0).toNat : Int))) = a.map byteD := by
  apply List.ext_getElem
  · simp [ha]
  · intro i h1 h2
    simp at h2
    simp [List.getD_eq_getElem?_getD, h2, byteD]
set_option maxHeartbeats 2000000 in
theorem text_c (a b : List UInt8) (ha : a.length = 32) (hb : b.length = 32) : PC (envOf Tryd.prog) 62 [hashD a, hashD b] (strD (textS a b)) := by
  have hh : ∀ h, hashD h = .arr .u8 32 (fun i => ((h.getD i 0).toNat : Int)) := fun _ => rfl
  have ea := bytes32 ha
  have eb := bytes32 hb
  have hX := and_true; refine PC_atX Tryd.func62 rfl Tryd.ntmps62 Tryd.results62 rfl (by simp only [argsL, Nat.reduceAdd, u32D, u8D, iD, bD, strD, u32_xor, u32_or, u32_and, u32_add, u32_not, u32_shr, u32_shl, u8_u32, u32_u8]; exact rfl) ?_; intro w0 A
  have hX := And.intro hh (and_true)
  (repeat refine DX_seq ?_); refine rgx [2, 3] ?_
  have hX := And.intro hh (And.intro ea (eb))
  (repeat refine DX_seq ?_); refine rqx [4] ?_
  (repeat refine DX_seq ?_); refine DX_ret ?_; refine retx ?_; (try dsimp only [outV, unlist])
  exact Fin_pure rfl
theorem textS_len {a b : List UInt8} (ha : a.length = 32) (hb : b.length = 32) : (textS a b).length = 65 := by simp [textS, ha, hb]
set_option maxHeartbeats 2000000 in
theorem above_c (a b : List UInt8) (ha : a.length = 32) (hb : b.length = 32) : PC (envOf Tryd.prog) 22 [hashD a, hashD b] (hashD (aboveS a b)) := by
  have hh : ∀ h, hashD h = .arr .u8 32 (fun i => ((h.getD i 0).toNat : Int)) := fun _ => rfl
  have ea := bytes32 ha
  have eb := bytes32 hb
  have hX := and_true; refine PC_atX Tryd.func22 rfl Tryd.ntmps22 Tryd.results22 rfl (by simp only [argsL, Nat.reduceAdd, u32D, u8D, iD, bD, strD, u32_xor, u32_or, u32_and, u32_add, u32_not, u32_shr, u32_shl, u8_u32, u32_u8]; exact rfl) ?_; intro w0 A
  have hX := And.intro hh (and_true)
  (repeat refine DX_seq ?_); refine rgx [2, 3, 4] ?_
  (repeat refine DX_seq ?_); refine DX_reg [3, 4, 5] ?_; intro w0 A S0 f0; refine ex rfl (dobsl1 rfl rfl rfl rfl rfl) ?_; (repeat ((with_reducible show DR _ _ _ (_ :: _) _); first | (refine cx _ (envG _ _ _ _ _ _) rfl rfl rfl rfl rfl ?_ (hc := by first | fail))  | (refine sx ?_))); refine DR_nil ?_; refine kl1 ?_
  have eR : (D.v (Value.int .u8 1) :: ((List.range 32).map (fun i => D.v (.int .u8 ((a.getD i 0).toNat : Int))) ++ (List.range 32).map (fun i => D.v (.int .u8 ((b.getD i 0).toNat : Int))))) = (textS a b).map byteD := by
    rw [bytesDT ha, bytesDT hb]
    simp [textS, byteD]
  have hl := textS_len ha hb
  have hX := And.intro eR (hl)
  (repeat refine DX_seq ?_); refine DX_reg [4] ?_; intro w0 A S0 f0; (repeat ((with_reducible show DR _ _ _ (_ :: _) _); first | (refine cx _ (envG _ _ _ _ _ _) rfl rfl rfl rfl rfl ?_ (hc := by first | exact sum_c _ (by rw [textS_len ha hb]; omega)))  | (refine sx ?_))); refine DR_nil ?_; refine kl1 ?_
  (repeat refine DX_seq ?_); refine DX_ret ?_; refine retx ?_; (try dsimp only [outV, unlist])
  exact Fin_pure rfl
end Go.Proofs.YtedioenakmgdiaaDoor

namespace Go.Proofs.YtedioenakmgdiaaDoor
set_option linter.unusedSimpArgs false
set_option linter.unusedVariables false
set_option maxRecDepth 10000
open Go.RowKit
def hsD (l : List (List UInt8)) : D := .sl l ([] : List UInt8) hashD
theorem hsD_eq (l : List (List UInt8)) : hsD l = .sl l ([] : List UInt8) hashD := rfl
theorem getD_all {l : List (List UInt8)} {n : Nat} (h : ∀ x ∈ l, x.length = n) {i : Nat} (hi : i < l.length) : (l.getD i []).length = n := by
  rw [List.getD_eq_getElem?_getD, List.getElem?_eq_getElem hi]
  exact h _ (List.getElem_mem hi)
end Go.Proofs.YtedioenakmgdiaaDoor

namespace Go.Proofs.YtedioenakmgdiaaDoor
set_option linter.unusedSimpArgs false
set_option linter.unusedVariables false
set_option maxRecDepth 10000
open Go.RowKit
theorem two_pow_big {k : Nat} (h : k ≤ 7) : 2 ^ k ≤ 128 := Nat.le_trans (Nat.pow_le_pow_right (by omega) h) (by decide)
end Go.Proofs.YtedioenakmgdiaaDoor

namespace Go.Proofs.YtedioenakmgdiaaDoor
set_option linter.unusedSimpArgs false
set_option linter.unusedVariables false
set_option maxRecDepth 10000
open Go.RowKit
def hzD : D := .arr .u8 32 (fun _ => 0)
theorem hzD_eq : hzD = .arr .u8 32 (fun _ => 0) := rfl
/-- a sum, or none -/
def heD (h : List UInt8) (e : Int) : D := .tup (.cons (hashD h) (.cons (iD e) .nil))
def hnD : D := .tup (.cons hzD (.cons (iD 1) .nil))
theorem shr1 (x : Nat) : (x : Int) / (2 : Int) ^ 1 = ((x / 2 : Nat) : Int) := by omega
end Go.Proofs.YtedioenakmgdiaaDoor

namespace Go.Proofs.YtedioenakmgdiaaDoor
set_option linter.unusedSimpArgs false
set_option linter.unusedVariables false
set_option maxRecDepth 10000
open Go.RowKit
end Go.Proofs.YtedioenakmgdiaaDoor

namespace Go.Proofs.YtedioenakmgdiaaDoor
set_option linter.unusedSimpArgs false
set_option linter.unusedVariables false
set_option maxRecDepth 10000
open Go.RowKit
theorem and1 (x : Nat) : x &&& 1 = x % 2 := Nat.and_two_pow_sub_one_eq_mod x 1
theorem take_one {p : List (List UInt8)} {k : Nat} (h : k < p.length) : p.take (k + 1) = p.take k ++ [p.getD k []] := by
  rw [List.take_add_one, List.getD_eq_getElem?_getD, List.getElem?_eq_getElem h]
  rfl
theorem nat_lt0' (i : Nat) : decide ((i : Int) < 0) = false := decide_eq_false (by omega)
theorem dec_mod (x : Nat) : decide (((x % 2 : Nat) : Int) = 0) = decide (x % 2 = 0) := decide_eq_decide.2 (by omega)
set_option maxHeartbeats 4000000 in
theorem climbOk_c (leaf : List UInt8) (p : List (List UInt8)) (i : Nat) (hlf : leaf.length = 32) (hp : p.length ≤ 7) (hi : i < 2 ^ p.length) (h32 : ∀ x ∈ p, x.length = 32) : PC (envOf Tryd.prog) 20 [hashD leaf, iD (i : Int), hsD p] (heD (climbP p i leaf) 0) := by
  have hh : ∀ h, hashD h = .arr .u8 32 (fun i => ((h.getD i 0).toNat : Int)) := fun _ => rfl
  have d0 : decide ((7 : Int) < (p.length : Int)) = false := decide_eq_false (by omega)
  have d1 := nat_lt0' i
  have hpb := two_pow_big hp
  have e0 : (1 : Int) * 2 ^ p.length = ((2 ^ p.length : Nat) : Int) := by simp
  have d2 : decide (((2 ^ p.length : Nat) : Int) ≤ (i : Int)) = false := decide_eq_false (by omega)
  have hX := and_true; refine PC_atX Tryd.func20 rfl Tryd.ntmps20 Tryd.results20 rfl (by simp only [argsL, Nat.reduceAdd, u32D, u8D, iD, bD, strD, u32_xor, u32_or, u32_and, u32_add, u32_not, u32_shr, u32_shl, u8_u32, u32_u8]; exact rfl) ?_; intro w0 A
  have hX := And.intro hsD_eq (And.intro hh (And.intro d0 (And.intro d1 (And.intro e0 (And.intro d2 (Int.mul_one))))))
  (repeat refine DX_seq ?_); refine rgx [1, 2, 3, 6] ?_
  (repeat refine DX_seq ?_); refine rggx [1, 2, 3, 6, 23] ?_
  (repeat refine DX_seq ?_); refine iffx ?_
  (repeat refine DX_seq ?_); refine DX_skip ?_
  (repeat refine DX_seq ?_); refine rgx [1, 3, 6, 25, 26, 27] ?_
  (repeat refine DX_seq ?_); refine DX_block ?_
  (repeat refine DX_seq ?_); refine DX_loop (fun m _ st => ∃ k, k + m = p.length ∧ st = mk [(1, iD ((i / 2 ^ k : Nat) : Int)), (3, .ptr 0 0), (6, .ptr 1 0), (25, hsD p), (26, iD (p.length : Int)), (27, iD (k : Int))] [some (.one (hashD (climbP (p.take k) i leaf))), some (.one hzD)]) p.length ⟨_, WeakX.refl _, 0, by omega, ?_⟩ ?_
  · rw [Nat.pow_zero, Nat.div_one]; rfl
  rintro m _ _ ⟨k, hk, rfl⟩
  have hX := And.intro hsD_eq (And.intro hh (hzD_eq))
  (repeat refine DX_seq ?_); refine rgx [1, 3, 6, 25, 26, 27, 28] ?_
  (repeat refine DX_seq ?_); refine ifx ?_ ?_
  · intro hc; (try simp only [hcs, ne_eq] at hc)
    have hkn : k < p.length := by omega
    have hs := climbP_snoc (p.take k) (p.getD k []) i leaf
    rw [← take_one hkn, List.length_take, Nat.min_eq_left (by omega)] at hs
    have hcl := climbP_len (p.take k) i leaf hlf
    have hxl := getD_all h32 hkn
    have hdd : i / 2 ^ (k + 1) = i / 2 ^ k / 2 := by rw [Nat.pow_succ, Nat.div_div_eq_div_mul]
    have hyl : i / 2 ^ k ≤ i := Nat.div_le_self _ _
    generalize climbP (p.take k) i leaf = at' at *
    generalize hxx : p.getD k [] = x at *
    generalize i / 2 ^ k = y at *
    have a1 := and1 y
    have s1 := shr1 y
    have dm := dec_mod y
    (repeat refine DX_seq ?_); refine DX_skip ?_
    (repeat refine DX_seq ?_); refine DX_block ?_
    have hX := And.intro hsD_eq (And.intro hh (And.intro hzD_eq (And.intro hxx (And.intro a1 (And.intro s1 (dm))))))
    (repeat refine DX_seq ?_); refine rgx [1, 3, 6, 9, 25, 26, 27] ?_
    (repeat refine DX_seq ?_); refine rgx [1, 3, 6, 9, 25, 26, 27, 33] ?_
    (repeat refine DX_seq ?_); refine ifx ?_ ?_
    · intro hc2; have hc2 := of_decide_eq_true hc2
      rw [if_pos hc2] at hs
      have hX := And.intro hsD_eq (And.intro hh (And.intro hzD_eq (s1)))
      have hK := And.intro (above_c at' x hcl hxl) trivial; (repeat refine DX_seq ?_); refine rgx [1, 3, 6, 25, 26, 27] ?_
      (repeat refine DX_seq ?_); refine rgx [1, 3, 6, 25, 26, 27] ?_
      (repeat refine DX_seq ?_); refine rgx [1, 3, 6, 25, 26, 27] ?_
      refine ⟨_, m - 1, WeakX.take 2 rfl rfl rfl, by omega, k + 1, by omega, ?_⟩
      rw [hs, hdd]; simp [iD, hsD_eq, hzD_eq, hh]
    · intro hc2; have hc2 := of_decide_eq_false hc2
      rw [if_neg hc2] at hs
      have hX := And.intro hsD_eq (And.intro hh (And.intro hzD_eq (s1)))
      have hK := And.intro (above_c x at' hxl hcl) trivial; (repeat refine DX_seq ?_); refine rgx [1, 3, 6, 25, 26, 27] ?_
      (repeat refine DX_seq ?_); refine rgx [1, 3, 6, 25, 26, 27] ?_
      (repeat refine DX_seq ?_); refine rgx [1, 3, 6, 25, 26, 27] ?_
      refine ⟨_, m - 1, WeakX.take 2 rfl rfl rfl, by omega, k + 1, by omega, ?_⟩
      rw [hs, hdd]; simp [iD, hsD_eq, hzD_eq, hh]
  · intro hc; (try simp only [hcs, ne_eq] at hc)
    obtain rfl : k = p.length := by omega
    (repeat refine DX_seq ?_); refine DX_exit ?_
    rw [List.take_length]
    have hX := And.intro hsD_eq (And.intro hh (hzD_eq))
    (repeat refine DX_seq ?_); refine rgx [6, 7] ?_
    (repeat refine DX_seq ?_); refine DX_ret ?_; refine retx ?_; (try dsimp only [outV, unlist])
    exact Fin_pure rfl
end Go.Proofs.YtedioenakmgdiaaDoor
