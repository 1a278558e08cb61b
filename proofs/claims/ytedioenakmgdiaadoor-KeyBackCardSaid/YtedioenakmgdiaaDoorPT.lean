/- Trees of sums: plain. Whether there may be so many leaves; what is above two. The level above. All levels. Roots and paths. Paths, walked. Ways, walked. -/
import Derived.Test.YtedioenakmgdiaaDoorPF
import Derived.Test.YtedioenakmgdiaaDoorPD
import Derived.Test.YtedioenakmgdiaaDoorPG
namespace Go.Proofs.YtedioenakmgdiaaDoor
set_option linter.unusedSimpArgs false
set_option linter.unusedVariables false
set_option maxRecDepth 10000
def textS (a b : List UInt8) : List UInt8 := 1 :: (a ++ b)
def aboveS (a b : List UInt8) : List UInt8 := sumP (textS a b)
theorem aboveS_len (a b : List UInt8) : (aboveS a b).length = 32 := sumP_len _
def upS : List (List UInt8) → List (List UInt8)
  | a :: b :: l => aboveS a b :: upS l
  | _ => []
theorem upS_len : ∀ l : List (List UInt8), (upS l).length = l.length / 2
  | [] => by simp [upS]
  | [_] => by simp [upS]
  | a :: b :: l => by simp only [upS, List.length_cons, upS_len l]; omega
theorem upS_all : ∀ l : List (List UInt8), ∀ h ∈ upS l, h.length = 32
  | [], h, hh => by cases hh
  | [_], h, hh => by cases hh
  | a :: b :: l, h, hh => by
    simp only [upS, List.mem_cons] at hh
    rcases hh with rfl | hh
    · exact aboveS_len _ _
    · exact upS_all l h hh
theorem upS_take : ∀ (m : Nat) (l : List (List UInt8)), upS (l.take (2 * m)) = (upS l).take m
  | 0, l => by simp [upS]
  | m + 1, [] => by simp [upS]
  | m + 1, [a] => by
    rw [show 2 * (m + 1) = 2 * m + 1 + 1 by omega]
    simp [upS]
  | m + 1, a :: b :: l => by
    rw [show 2 * (m + 1) = 2 * m + 1 + 1 by omega]
    simp only [List.take_succ_cons, upS]
    rw [upS_take m l]
theorem upS_drop : ∀ (m : Nat) (l : List (List UInt8)), upS (l.drop (2 * m)) = (upS l).drop m
  | 0, l => by simp
  | m + 1, [] => by simp [upS]
  | m + 1, [a] => by
    rw [show 2 * (m + 1) = 2 * m + 1 + 1 by omega]
    simp [upS]
  | m + 1, a :: b :: l => by
    rw [show 2 * (m + 1) = 2 * m + 1 + 1 by omega]
    simp only [List.drop_succ_cons, upS]
    rw [upS_drop m l]
theorem upS_snoc : ∀ (l : List (List UInt8)) (a b : List UInt8), l.length % 2 = 0 → upS (l ++ [a, b]) = upS l ++ [aboveS a b]
  | [], a, b, _ => rfl
  | [_], a, b, h => by simp at h
  | x :: y :: l, a, b, h => by
    simp only [List.cons_append, upS]
    rw [upS_snoc l a b (by simp only [List.length_cons] at h; omega)]
theorem upS_get : ∀ (l : List (List UInt8)) (j : Nat), 2 * j + 1 < l.length → (upS l).getD j [] = aboveS (l.getD (2 * j) []) (l.getD (2 * j + 1) [])
  | [], j, h => by simp at h
  | [_], j, h => by simp at h
  | a :: b :: l, 0, _ => rfl
  | a :: b :: l, j + 1, h => by
    have := upS_get l j (by simp only [List.length_cons] at h; omega)
    rw [show 2 * (j + 1) = 2 * j + 1 + 1 by omega]
    simpa only [upS, List.getD_cons_succ] using this
/-- as the program goes, level by level -/
def rootP : Nat → List (List UInt8) → List UInt8
  | 0, l => l.getD 0 []
  | k + 1, l => rootP k (upS l)
theorem rootP_split : ∀ (k : Nat) (l : List (List UInt8)), l.length = 2 ^ (k + 1) → rootP (k + 1) l = aboveS (rootP k (l.take (2 ^ k))) (rootP k (l.drop (2 ^ k)))
  | 0, l, h => by
    match l, h with
    | [a, b], _ => rfl
  | k + 1, l, h => by
    have e : 2 ^ (k + 1) = 2 * 2 ^ k := by rw [Nat.pow_succ]; omega
    have h2 : (upS l).length = 2 ^ (k + 1) := by rw [upS_len, h, Nat.pow_succ 2 (k + 1)]; omega
    show rootP (k + 1) (upS l) = aboveS (rootP k (upS (l.take (2 ^ (k + 1))))) (rootP k (upS (l.drop (2 ^ (k + 1)))))
    rw [rootP_split k (upS l) h2, e, upS_take, upS_drop]
/-- .. and by halves -/
def rootR : Nat → List (List UInt8) → List UInt8
  | 0, l => l.getD 0 []
  | k + 1, l => aboveS (rootR k (l.take (2 ^ k))) (rootR k (l.drop (2 ^ k)))
theorem half_len {k : Nat} {l : List (List UInt8)} (h : l.length = 2 ^ (k + 1)) : (l.take (2 ^ k)).length = 2 ^ k ∧ (l.drop (2 ^ k)).length = 2 ^ k := by
  have e : 2 ^ (k + 1) = 2 * 2 ^ k := by rw [Nat.pow_succ]; omega
  constructor
  · rw [List.length_take]; omega
  · rw [List.length_drop]; omega
theorem root_eq : ∀ (k : Nat) (l : List (List UInt8)), l.length = 2 ^ k → rootP k l = rootR k l
  | 0, l, _ => rfl
  | k + 1, l, h => by
    obtain ⟨h1, h2⟩ := half_len h
    rw [rootP_split k l h]
    simp only [rootR]
    rw [root_eq k _ h1, root_eq k _ h2]
theorem rootP_len : ∀ (k : Nat) (l : List (List UInt8)), l.length = 2 ^ k → (∀ h ∈ l, h.length = 32) → (rootP k l).length = 32
  | 0, l, h, hl => by
    match l, h with
    | [a], _ => exact hl a (by simp)
  | k + 1, l, h, hl => by
    rw [rootP_split k l h]
    exact aboveS_len _ _
/-! ### paths -/
def flip1 (i : Nat) : Nat := if i % 2 = 0 then i + 1 else i - 1
def pathP : Nat → List (List UInt8) → Nat → List (List UInt8)
  | 0, _, _ => []
  | k + 1, l, i => l.getD (flip1 i) [] :: pathP k (upS l) (i / 2)
theorem pathP_len : ∀ (k : Nat) (l : List (List UInt8)) (i : Nat), (pathP k l i).length = k
  | 0, _, _ => rfl
  | k + 1, l, i => by simp [pathP, pathP_len k]
theorem getD_take {l : List (List UInt8)} {m i : Nat} (h : i < m) : (l.take m).getD i [] = l.getD i [] := by
  simp [List.getD_eq_getElem?_getD, List.getElem?_take, h]
theorem getD_drop {l : List (List UInt8)} {m i : Nat} (h : m ≤ i) : (l.drop m).getD (i - m) [] = l.getD i [] := by
  simp only [List.getD_eq_getElem?_getD, List.getElem?_drop]
  rw [show m + (i - m) = i by omega]
theorem pathP_split : ∀ (k : Nat) (l : List (List UInt8)) (i : Nat), l.length = 2 ^ (k + 1) → i < 2 ^ (k + 1) →
    pathP (k + 1) l i = if i < 2 ^ k then pathP k (l.take (2 ^ k)) i ++ [rootP k (l.drop (2 ^ k))] else pathP k (l.drop (2 ^ k)) (i - 2 ^ k) ++ [rootP k (l.take (2 ^ k))]
  | 0, l, i, h, hi => by
    match l, h with
    | [a, b], _ =>
      rcases (show i = 0 ∨ i = 1 by omega) with rfl | rfl <;> rfl
  | k + 1, l, i, h, hi => by
    have e : 2 ^ (k + 1) = 2 * 2 ^ k := by rw [Nat.pow_succ]; omega
    have e2 : 2 ^ (k + 1 + 1) = 2 * 2 ^ (k + 1) := by rw [Nat.pow_succ 2 (k + 1)]; omega
    have h2 : (upS l).length = 2 ^ (k + 1) := by rw [upS_len, h]; omega
    have ih := pathP_split k (upS l) (i / 2) h2 (by omega)
    rw [show pathP (k + 1 + 1) l i = l.getD (flip1 i) [] :: pathP (k + 1) (upS l) (i / 2) from rfl, ih]
    have q1 : ∀ m : List (List UInt8), pathP (k + 1) m i = m.getD (flip1 i) [] :: pathP k (upS m) (i / 2) := fun _ => rfl
    by_cases hc : i < 2 ^ (k + 1)
    · have hc2 : i / 2 < 2 ^ k := by omega
      rw [if_pos hc, if_pos hc2, q1, e, upS_take, getD_take (by unfold flip1; split <;> omega)]
      show _ = _ :: pathP k ((upS l).take (2 ^ k)) (i / 2) ++ [rootP k (upS (l.drop (2 * 2 ^ k)))]
      rw [upS_drop]
      rfl
    · have hc2 : ¬ i / 2 < 2 ^ k := by omega
      rw [if_neg hc, if_neg hc2]
      rw [show pathP (k + 1) (l.drop (2 ^ (k + 1))) (i - 2 ^ (k + 1)) = (l.drop (2 ^ (k + 1))).getD (flip1 (i - 2 ^ (k + 1))) [] :: pathP k (upS (l.drop (2 ^ (k + 1)))) ((i - 2 ^ (k + 1)) / 2) from rfl]
      have f1 : flip1 (i - 2 ^ (k + 1)) = flip1 i - 2 ^ (k + 1) := by
        unfold flip1
        have : (i - 2 ^ (k + 1)) % 2 = i % 2 := by omega
        rw [this]
        split <;> omega
      have f2 : (i - 2 ^ (k + 1)) / 2 = i / 2 - 2 ^ k := by omega
      rw [f1, f2, getD_drop (by unfold flip1; split <;> omega), e, upS_drop]
      show _ = _ :: pathP k ((upS l).drop (2 ^ k)) (i / 2 - 2 ^ k) ++ [rootP k (upS (l.take (2 * 2 ^ k)))]
      rw [upS_take]
      rfl
def pathR : Nat → List (List UInt8) → Nat → List (List UInt8)
  | 0, _, _ => []
  | k + 1, l, i => if i < 2 ^ k then pathR k (l.take (2 ^ k)) i ++ [rootR k (l.drop (2 ^ k))] else pathR k (l.drop (2 ^ k)) (i - 2 ^ k) ++ [rootR k (l.take (2 ^ k))]
theorem path_eq : ∀ (k : Nat) (l : List (List UInt8)) (i : Nat), l.length = 2 ^ k → i < 2 ^ k → pathP k l i = pathR k l i
  | 0, _, _, _, _ => rfl
  | k + 1, l, i, h, hi => by
    obtain ⟨h1, h2⟩ := half_len h
    have e : 2 ^ (k + 1) = 2 * 2 ^ k := by rw [Nat.pow_succ]; omega
    rw [pathP_split k l i h hi]
    simp only [pathR]
    split
    · rename_i hc; rw [path_eq k _ i h1 hc, root_eq k _ h2]
    · rename_i hc; rw [path_eq k _ (i - 2 ^ k) h2 (by omega), root_eq k _ h1]
/-! ### ways -/
def climbP : List (List UInt8) → Nat → List UInt8 → List UInt8
  | [], _, leaf => leaf
  | x :: p, i, leaf => climbP p (i / 2) (if i % 2 = 0 then aboveS leaf x else aboveS x leaf)
theorem climb_path : ∀ (k : Nat) (l : List (List UInt8)) (i : Nat), l.length = 2 ^ k → i < 2 ^ k → climbP (pathP k l i) i (l.getD i []) = rootP k l
  | 0, l, i, h, hi => by
    obtain rfl : i = 0 := by simp at hi; omega
    rfl
  | k + 1, l, i, h, hi => by
    have e : 2 ^ (k + 1) = 2 * 2 ^ k := by rw [Nat.pow_succ]; omega
    have h2 : (upS l).length = 2 ^ k := by rw [upS_len, h]; omega
    have ih := climb_path k (upS l) (i / 2) h2 (by omega)
    have hg := upS_get l (i / 2) (by omega)
    simp only [pathP, climbP, rootP]
    rw [← ih]
    congr 1
    rw [hg]
    unfold flip1
    split
    · rename_i hc
      rw [show 2 * (i / 2) = i by omega]
    · rename_i hc
      rw [show 2 * (i / 2) + 1 = i by omega, show 2 * (i / 2) = i - 1 by omega]
theorem climbP_len : ∀ (p : List (List UInt8)) (i : Nat) (leaf : List UInt8), leaf.length = 32 → (climbP p i leaf).length = 32
  | [], _, _, h => h
  | x :: p, i, leaf, h => climbP_len p _ _ (by split <;> exact aboveS_len _ _)
theorem climbP_snoc : ∀ (p : List (List UInt8)) (x : List UInt8) (i : Nat) (leaf : List UInt8), climbP (p ++ [x]) i leaf = if i / 2 ^ p.length % 2 = 0 then aboveS (climbP p i leaf) x else aboveS x (climbP p i leaf)
  | [], x, i, leaf => by simp [climbP]
  | y :: p, x, i, leaf => by
    simp only [List.cons_append, climbP, List.length_cons]
    rw [climbP_snoc p x, Nat.div_div_eq_div_mul, ← Nat.pow_succ']
/-- the texts that are summed on a way -/
def wayP : List (List UInt8) → Nat → List UInt8 → List (List UInt8)
  | [], _, _ => []
  | x :: p, i, leaf => (if i % 2 = 0 then textS leaf x else textS x leaf) :: wayP p (i / 2) (if i % 2 = 0 then aboveS leaf x else aboveS x leaf)
theorem wayP_len : ∀ (p : List (List UInt8)) (i : Nat) (leaf : List UInt8), (wayP p i leaf).length = p.length
  | [], _, _ => rfl
  | x :: p, i, leaf => by simp [wayP, wayP_len p]
theorem wayP_snoc : ∀ (p : List (List UInt8)) (x : List UInt8) (i : Nat) (leaf : List UInt8), wayP (p ++ [x]) i leaf = wayP p i leaf ++ [if i / 2 ^ p.length % 2 = 0 then textS (climbP p i leaf) x else textS x (climbP p i leaf)]
  | [], x, i, leaf => by simp [wayP, climbP]
  | y :: p, x, i, leaf => by
    simp only [List.cons_append, wayP, climbP, List.length_cons]
    rw [wayP_snoc p x, Nat.div_div_eq_div_mul, ← Nat.pow_succ']
theorem climb_last : ∀ (p : List (List UInt8)) (i : Nat) (leaf : List UInt8), p ≠ [] → climbP p i leaf = sumP ((wayP p i leaf).getD (p.length - 1) []) := by
  intro p i leaf hp
  obtain ⟨q, x, rfl⟩ : ∃ q x, p = q ++ [x] := ⟨p.dropLast, p.getLast hp, (List.dropLast_concat_getLast hp).symm⟩
  rw [climbP_snoc, wayP_snoc]
  have hl := wayP_len q i leaf
  simp only [List.length_append, List.length_cons, List.length_nil, Nat.add_sub_cancel, List.getD_eq_getElem?_getD]
  rw [List.getElem?_append_right (by omega), hl]
  simp only [Nat.sub_self, List.getElem?_cons_zero, Option.getD_some]
  split <;> rfl
theorem textS_inj {a b c d : List UInt8} (ha : a.length = 32) (hc : c.length = 32) (h : textS a b = textS c d) : a = c ∧ b = d := by
  simp only [textS, List.cons.injEq, true_and] at h
  exact List.append_inj h (by omega)
/-- two ways to one root: one way, or two unlike texts that have one sum -/
theorem way_other : ∀ (p q : List (List UInt8)) (i : Nat) (a b : List UInt8), p.length = q.length → a.length = 32 → b.length = 32 → (∀ h ∈ p, h.length = 32) → (∀ h ∈ q, h.length = 32) → climbP p i a = climbP q i b →
    (∀ k, k < p.length → sumP ((wayP p i a).getD k []) = sumP ((wayP q i b).getD k []) → (wayP p i a).getD k [] = (wayP q i b).getD k []) → a = b ∧ p = q
  | [], [], i, a, b, _, _, _, _, _, h, _ => ⟨h, rfl⟩
  | [], _ :: _, _, _, _, hl, _, _, _, _, _, _ => by simp at hl
  | _ :: _, [], _, _, _, hl, _, _, _, _, _, _ => by simp at hl
  | x :: p, y :: q, i, a, b, hl, ha, hb, hp, hq, h, hk => by
    have hx := hp x (by simp)
    have hy := hq y (by simp)
    simp only [climbP] at h
    have ih := way_other p q (i / 2) _ _ (by simpa using hl) (by split <;> exact aboveS_len _ _) (by split <;> exact aboveS_len _ _) (fun h hh => hp h (by simp [hh])) (fun h hh => hq h (by simp [hh])) h (fun k hk' hs => by
      have := hk (k + 1) (by simp; omega)
      simp only [wayP, List.getD_cons_succ] at this
      exact this hs)
    obtain ⟨e1, rfl⟩ := ih
    have h0 := hk 0 (by simp)
    simp only [wayP, List.getD_cons_zero] at h0
    by_cases hc : i % 2 = 0
    · simp only [if_pos hc] at e1 h0
      obtain ⟨rfl, rfl⟩ := textS_inj ha hb (h0 e1)
      exact ⟨rfl, rfl⟩
    · simp only [if_neg hc] at e1 h0
      obtain ⟨rfl, rfl⟩ := textS_inj hx hy (h0 e1)
      exact ⟨rfl, rfl⟩
end Go.Proofs.YtedioenakmgdiaaDoor

namespace Go.Proofs.YtedioenakmgdiaaDoor
set_option linter.unusedSimpArgs false
set_option linter.unusedVariables false
set_option maxRecDepth 10000
open Go.RowKit
def popT (n : Nat) : Nat := n % 2 + n / 2 % 2 + n / 4 % 2 + n / 8 % 2 + n / 16 % 2 + n / 32 % 2 + n / 64 % 2 + n / 128 % 2
def fitB (n : Nat) : Bool := n == 1 || n == 2 || n == 4 || n == 8 || n == 16 || n == 32 || n == 64 || n == 128
theorem fit_pop (n : Nat) (h : n ≤ 128) : decide ((popT n : Int) = 1) = fitB n := by
  have : ∀ n : _root_.Fin 129, decide ((popT n.val : Int) = 1) = fitB n.val := by decide +kernel
  exact this ⟨n, by omega⟩
def p1 (n : Nat) : Nat := (n / 2 &&& 6148914691236517205) + (n &&& 6148914691236517205)
def p2 (n : Nat) : Nat := (n / 4 &&& 3689348814741910323) + (n &&& 3689348814741910323)
def p3 (n : Nat) : Nat := n / 16 + n &&& 1085102592571150095
theorem o1 (n : Nat) (h : n ≤ 128) : ((((n : Int) / 2 ^ 1).toNat &&& 6148914691236517205 : Nat) + ((n &&& 6148914691236517205 : Nat) : Int)) % 18446744073709551616 = (p1 n : Int) ∧ p1 n ≤ 255 := by
  have : ∀ n : _root_.Fin 129, ((((n.val : Int) / 2 ^ 1).toNat &&& 6148914691236517205 : Nat) + ((n.val &&& 6148914691236517205 : Nat) : Int)) % 18446744073709551616 = (p1 n.val : Int) ∧ p1 n.val ≤ 255 := by decide +kernel
  exact this ⟨n, by omega⟩
theorem o2 (n : Nat) (h : n ≤ 255) : ((((n : Int) / 2 ^ 2).toNat &&& 3689348814741910323 : Nat) + ((n &&& 3689348814741910323 : Nat) : Int)) % 18446744073709551616 = (p2 n : Int) ∧ p2 n ≤ 128 := by
  have : ∀ n : _root_.Fin 256, ((((n.val : Int) / 2 ^ 2).toNat &&& 3689348814741910323 : Nat) + ((n.val &&& 3689348814741910323 : Nat) : Int)) % 18446744073709551616 = (p2 n.val : Int) ∧ p2 n.val ≤ 128 := by decide +kernel
  exact this ⟨n, by omega⟩
theorem o3 (n : Nat) (h : n ≤ 128) : (((((n : Int) / 2 ^ 4 + (n : Int)) % 18446744073709551616).toNat &&& 1085102592571150095 : Nat) : Int) = (p3 n : Int) ∧ p3 n ≤ 255 := by
  have : ∀ n : _root_.Fin 129, (((((n.val : Int) / 2 ^ 4 + (n.val : Int)) % 18446744073709551616).toNat &&& 1085102592571150095 : Nat) : Int) = (p3 n.val : Int) ∧ p3 n.val ≤ 255 := by decide +kernel
  exact this ⟨n, by omega⟩
theorem o4 (n : Nat) (h : n ≤ 255) (k : Nat) (hk : 8 ≤ k) : ((n : Int) + (n : Int) / 2 ^ k) % 18446744073709551616 = (n : Int) := by
  have h1 : (n : Int) / 2 ^ k = 0 := by
    apply Int.ediv_eq_zero_of_lt (by omega)
    have h2 : 2 ^ 8 ≤ 2 ^ k := Nat.pow_le_pow_right (by omega) hk
    have h3 : (2 : Int) ^ k = ((2 ^ k : Nat) : Int) := by simp
    omega
  rw [h1]; omega
theorem o7 (n : Nat) (h : n ≤ 128) : (p3 (p2 (p1 n))) &&& 127 = popT n := by
  have : ∀ n : _root_.Fin 129, (p3 (p2 (p1 n.val))) &&& 127 = popT n.val := by decide +kernel
  exact this ⟨n, by omega⟩
set_option maxHeartbeats 2000000 in
theorem ones64_c (n : Nat) (hn : n ≤ 128) : PC (envOf Tryd.prog) 110 [.v (.int .u64 (n : Int))] (iD (popT n)) := by
  obtain ⟨e1, b1⟩ := o1 n hn
  obtain ⟨e2, b2⟩ := o2 _ b1
  obtain ⟨e3, b3⟩ := o3 _ b2
  have e7 := o7 n hn
  generalize p1 n = x1 at *
  generalize p2 x1 = x2 at *
  generalize p3 x2 = x3 at *
  have e4 := o4 x3 b3 8 (by omega)
  have e5 := o4 x3 b3 16 (by omega)
  have e6 := o4 x3 b3 32 (by omega)
  have hX := and_true; refine PC_atX Tryd.func110 rfl Tryd.ntmps110 Tryd.results110 rfl (by simp only [argsL, Nat.reduceAdd, u32D, u8D, iD, bD, strD, u32_xor, u32_or, u32_and, u32_add, u32_not, u32_shr, u32_shl, u8_u32, u32_u8]; exact rfl) ?_; intro w0 A
  have hX := And.intro e1 (And.intro e2 (And.intro e3 (And.intro e4 (And.intro e5 (And.intro e6 (e7))))))
  (repeat refine DX_seq ?_); refine rgx [0] ?_
  (repeat refine DX_seq ?_); refine rgx [0] ?_
  (repeat refine DX_seq ?_); refine rgx [0] ?_
  (repeat refine DX_seq ?_); refine rgx [0] ?_
  (repeat refine DX_seq ?_); refine rgx [0] ?_
  (repeat refine DX_seq ?_); refine rgx [0] ?_
  (repeat refine DX_seq ?_); refine rgx [0] ?_
  (repeat refine DX_seq ?_); refine rgx [2] ?_
  (repeat refine DX_seq ?_); refine DX_ret ?_; refine retx ?_; (try dsimp only [outV, unlist])
  exact Fin_pure rfl
theorem ones_c (n : Nat) (hn : n ≤ 128) : PC (envOf Tryd.prog) 88 [.v (.int .u64 (n : Int))] (iD (popT n)) := by
  have hX := and_true; refine PC_atX Tryd.func88 rfl Tryd.ntmps88 Tryd.results88 rfl (by simp only [argsL, Nat.reduceAdd, u32D, u8D, iD, bD, strD, u32_xor, u32_or, u32_and, u32_add, u32_not, u32_shr, u32_shl, u8_u32, u32_u8]; exact rfl) ?_; intro w0 A
  have hK := And.intro (ones64_c n hn) trivial; (repeat refine DX_seq ?_); refine rgx [0] ?_
  (repeat refine DX_seq ?_); refine iffx ?_
  (repeat refine DX_seq ?_); refine DX_skip ?_
  (repeat refine DX_seq ?_); refine rgx [2] ?_
  (repeat refine DX_seq ?_); refine DX_ret ?_; refine retx ?_; (try dsimp only [outV, unlist])
  exact Fin_pure rfl
theorem fit_big {n : Nat} (h : 128 < n) : fitB n = false := by
  simp only [fitB, Bool.or_eq_false_iff, beq_eq_false_iff_ne]
  omega
theorem fits_c (n : Nat) : PC (envOf Tryd.prog) 57 [iD (n : Int)] (bD (fitB n)) := by
  by_cases h0 : n = 0
  · subst h0
    have d0 : decide ((0 : Int) < ((0 : Nat) : Int)) = false := by decide
    have hX := and_true; refine PC_atX Tryd.func57 rfl Tryd.ntmps57 Tryd.results57 rfl (by simp only [argsL, Nat.reduceAdd, u32D, u8D, iD, bD, strD, u32_xor, u32_or, u32_and, u32_add, u32_not, u32_shr, u32_shl, u8_u32, u32_u8]; exact rfl) ?_; intro w0 A
    have hX := And.intro d0 (and_true)
    (repeat refine DX_seq ?_); refine rgx [0] ?_
    (repeat refine DX_seq ?_); refine rggx [2] ?_
    (repeat refine DX_seq ?_); refine DX_ret ?_; refine retx ?_; (try dsimp only [outV, unlist])
    exact Fin_pure rfl
  · have d0 : decide ((0 : Int) < (n : Int)) = true := decide_eq_true (by omega)
    by_cases h1 : 128 < n
    · have d1 : decide ((n : Int) ≤ 128) = false := decide_eq_false (by omega)
      have hX := and_true; refine PC_atX Tryd.func57 rfl Tryd.ntmps57 Tryd.results57 rfl (by simp only [argsL, Nat.reduceAdd, u32D, u8D, iD, bD, strD, u32_xor, u32_or, u32_and, u32_add, u32_not, u32_shr, u32_shl, u8_u32, u32_u8]; exact rfl) ?_; intro w0 A
      have hX := And.intro d0 (d1)
      (repeat refine DX_seq ?_); refine rgx [0] ?_
      (repeat refine DX_seq ?_); refine rggx [2] ?_
      (repeat refine DX_seq ?_); refine DX_ret ?_; refine retx ?_; (try dsimp only [outV, unlist])
      rw [fit_big h1]
      exact Fin_pure rfl
    · have d1 : decide ((n : Int) ≤ 128) = true := decide_eq_true (by omega)
      have m1 : (n : Int) % 18446744073709551616 = (n : Int) := by omega
      have d2 := fit_pop n (by omega)
      have hX := and_true; refine PC_atX Tryd.func57 rfl Tryd.ntmps57 Tryd.results57 rfl (by simp only [argsL, Nat.reduceAdd, u32D, u8D, iD, bD, strD, u32_xor, u32_or, u32_and, u32_add, u32_not, u32_shr, u32_shl, u8_u32, u32_u8]; exact rfl) ?_; intro w0 A
      have hX := And.intro d0 (And.intro d1 (And.intro m1 (d2)))
      have hK := And.intro (ones_c n (by omega)) trivial; (repeat refine DX_seq ?_); refine rgx [0] ?_
      (repeat refine DX_seq ?_); refine rggx [2] ?_
      (repeat refine DX_seq ?_); refine DX_ret ?_; refine retx ?_; (try dsimp only [outV, unlist])
      exact Fin_pure rfl
theorem refsumT_c (l : List UInt8) (hl : l.length ≤ 1048576) : PC (envOf Tryd.prog) 25 [strD l] (hashD (sumP l)) := by
  have := refsum_c l hl
  rwa [← sum_eq] at this
theorem bytes32 {a : List UInt8} (ha : a.length = 32) : ((List.range 32).map fun i => D.v (.int .u8 ((a.getD i 0).toNat : Int))).map byteOf = a := by
  rw [mid_eq' a 32 (by omega), List.take_of_length_le (by omega)]
theorem bytesDT {a : List UInt8} (ha : a.length = 32) : ((List.range 32).map fun i => D.v (.int .u8 ((a.getD i 0).toNat : Int))) = a.map byteD := by
  apply List.ext_getElem
  · simp [ha]
  · intro i h1 h2
    simp at h2
    simp [List.getD_eq_getElem?_getD, h2, byteD]
set_option maxHeartbeats 2000000 in
theorem text_c (a b : List UInt8) (ha : a.length = 32) (hb : b.length = 32) : PC (envOf Tryd.prog) 62 [hashD a, hashD b] (strD (textS a b)) := by
  have hh : ∀ h, hashD h = .arr .u8 32 (fun i => ((h.getD i 0).toNat : Int)) := fun _ => rfl
  have ea := bytes32 ha
  have eb := bytes32 hb
  have hX := and_true; refine PC_atX Tryd.func62 rfl Tryd.ntmps62 Tryd.results62 rfl (by simp only [argsL, Nat.reduceAdd, u32D, u8D, iD, bD, strD, u32_xor, u32_or, u32_and, u32_add, u32_not, u32_shr, u32_shl, u8_u32, u32_u8]; exact rfl) ?_; intro w0 A
  have hX := And.intro hh (and_true)
  (repeat refine DX_seq ?_); refine rgx [2, 3] ?_
  have hX := And.intro hh (And.intro ea (eb))
  (repeat refine DX_seq ?_); refine rqx [4] ?_
  (repeat refine DX_seq ?_); refine DX_ret ?_; refine retx ?_; (try dsimp only [outV, unlist])
  exact Fin_pure rfl
theorem textS_len {a b : List UInt8} (ha : a.length = 32) (hb : b.length = 32) : (textS a b).length = 65 := by simp [textS, ha, hb]
set_option maxHeartbeats 2000000 in
theorem refabove_c (a b : List UInt8) (ha : a.length = 32) (hb : b.length = 32) : PC (envOf Tryd.prog) 23 [hashD a, hashD b] (hashD (aboveS a b)) := by
  have hh : ∀ h, hashD h = .arr .u8 32 (fun i => ((h.getD i 0).toNat : Int)) := fun _ => rfl
  have hX := and_true; refine PC_atX Tryd.func23 rfl Tryd.ntmps23 Tryd.results23 rfl (by simp only [argsL, Nat.reduceAdd, u32D, u8D, iD, bD, strD, u32_xor, u32_or, u32_and, u32_add, u32_not, u32_shr, u32_shl, u8_u32, u32_u8]; exact rfl) ?_; intro w0 A
  have hX := And.intro hh (and_true)
  (repeat refine DX_seq ?_); refine DX_reg [2, 3, 4] ?_; intro w0 A S0 f0; (repeat ((with_reducible show DR _ _ _ (_ :: _) _); first | (refine cx _ (envG _ _ _ _ _ _) rfl rfl rfl rfl rfl ?_ (hc := by first | exact text_c a b ha hb | exact refsumT_c _ (by rw [textS_len ha hb]; omega)))  | (refine sx ?_))); refine DR_nil ?_; refine kl1 ?_
  (repeat refine DX_seq ?_); refine DX_reg [4] ?_; intro w0 A S0 f0; (repeat ((with_reducible show DR _ _ _ (_ :: _) _); first | (refine cx _ (envG _ _ _ _ _ _) rfl rfl rfl rfl rfl ?_ (hc := by first | exact text_c a b ha hb | exact refsumT_c _ (by rw [textS_len ha hb]; omega)))  | (refine sx ?_))); refine DR_nil ?_; refine kl1 ?_
  (repeat refine DX_seq ?_); refine DX_ret ?_; refine retx ?_; (try dsimp only [outV, unlist])
  exact Fin_pure rfl
set_option maxHeartbeats 2000000 in
theorem above_c (a b : List UInt8) (ha : a.length = 32) (hb : b.length = 32) : PC (envOf Tryd.prog) 22 [hashD a, hashD b] (hashD (aboveS a b)) := by
  have hh : ∀ h, hashD h = .arr .u8 32 (fun i => ((h.getD i 0).toNat : Int)) := fun _ => rfl
  have ea := bytes32 ha
  have eb := bytes32 hb
  have hX := and_true; refine PC_atX Tryd.func22 rfl Tryd.ntmps22 Tryd.results22 rfl (by simp only [argsL, Nat.reduceAdd, u32D, u8D, iD, bD, strD, u32_xor, u32_or, u32_and, u32_add, u32_not, u32_shr, u32_shl, u8_u32, u32_u8]; exact rfl) ?_; intro w0 A
  have hX := And.intro hh (and_true)
  (repeat refine DX_seq ?_); refine rgx [2, 3, 4] ?_
  (repeat refine DX_seq ?_); refine DX_reg [3, 4, 5] ?_; intro w0 A S0 f0; refine ex rfl (dobsl1 rfl rfl rfl rfl rfl) ?_; (repeat ((with_reducible show DR _ _ _ (_ :: _) _); first | (refine cx _ (envG _ _ _ _ _ _) rfl rfl rfl rfl rfl ?_ (hc := by first | fail))  | (refine sx ?_))); refine DR_nil ?_; refine kl1 ?_
  have eR : (D.v (Value.int .u8 1) :: ((List.range 32).map (fun i => D.v (.int .u8 ((a.getD i 0).toNat : Int))) ++ (List.range 32).map (fun i => D.v (.int .u8 ((b.getD i 0).toNat : Int))))) = (textS a b).map byteD := by
    rw [bytesDT ha, bytesDT hb]
    simp [textS, byteD]
  have hl := textS_len ha hb
  have hX := And.intro eR (hl)
  (repeat refine DX_seq ?_); refine DX_reg [4] ?_; intro w0 A S0 f0; (repeat ((with_reducible show DR _ _ _ (_ :: _) _); first | (refine cx _ (envG _ _ _ _ _ _) rfl rfl rfl rfl rfl ?_ (hc := by first | exact sum_c _ (by rw [textS_len ha hb]; omega)))  | (refine sx ?_))); refine DR_nil ?_; refine kl1 ?_
  (repeat refine DX_seq ?_); refine DX_ret ?_; refine retx ?_; (try dsimp only [outV, unlist])
  exact Fin_pure rfl
end Go.Proofs.YtedioenakmgdiaaDoor

namespace Go.Proofs.YtedioenakmgdiaaDoor
set_option linter.unusedSimpArgs false
set_option linter.unusedVariables false
set_option maxRecDepth 10000
open Go.RowKit
def hsD (l : List (List UInt8)) : D := .sl l ([] : List UInt8) hashD
theorem hsD_eq (l : List (List UInt8)) : hsD l = .sl l ([] : List UInt8) hashD := rfl
def rowD (l : List (List UInt8)) : D := .cons (hsD l) (.cons (.fn 22 .nil) .nil)
theorem rowD_eq (l : List (List UInt8)) : rowD l = .cons (.sl l ([] : List UInt8) hashD) (.cons (.fn 22 .nil) .nil) := rfl
def chunksI (l : List (List UInt8)) (k : Nat) : List (List D) := (List.range k).map fun (j : Nat) => [hsD [l.getD (2 * j) [], l.getD (2 * j + 1) []]]
theorem chunksI_succ (l : List (List UInt8)) (k : Nat) : chunksI l k ++ [[hsD [l.getD (2 * k) [], l.getD (2 * k + 1) []]]] = chunksI l (k + 1) := by simp [chunksI, List.range_succ]
theorem chunksI_pre (l : List (List UInt8)) {k m : Nat} (h : k ≤ m) : chunksI l k <+: chunksI l m := by
  obtain ⟨d, rfl⟩ := Nat.exists_eq_add_of_le h
  refine ⟨(List.range d).map fun (j : Nat) => [hsD [l.getD (2 * (k + j)) [], l.getD (2 * (k + j) + 1) []]], ?_⟩
  simp only [chunksI, List.range_add, List.map_append, List.map_map]
  rfl
theorem chunksI_len (l : List (List UInt8)) (k : Nat) : (chunksI l k).length = k := by simp [chunksI]
theorem chunksI_at {l : List (List UInt8)} {pre : List (List D)} {x : List D} {m : Nat} (h : pre ++ [x] <+: chunksI l m) : pre.length < m ∧ x = [hsD [l.getD (2 * pre.length) [], l.getD (2 * pre.length + 1) []]] := by
  have hl := h.length_le
  rw [chunksI_len] at hl
  simp at hl
  refine ⟨by omega, ?_⟩
  have h1 := h.getElem (i := pre.length) (by simp)
  rw [List.getElem_append_right (by omega)] at h1
  simp only [Nat.sub_self, List.getElem_singleton] at h1
  rw [h1]
  simp [chunksI]
theorem cut2 (l : List (List UInt8)) (j : Nat) (h : 2 * j + 2 ≤ l.length) : (l.take (2 * j + 2)).drop (2 * j) = [l.getD (2 * j) [], l.getD (2 * j + 1) []] := by
  apply List.ext_getElem
  · simp; omega
  · intro i h1 h2
    simp only [List.length_cons, List.length_nil] at h2
    rcases (show i = 0 ∨ i = 1 by omega) with rfl | rfl
    · simp [List.getD_eq_getElem?_getD, show 2 * j < l.length by omega]
    · simp [List.getD_eq_getElem?_getD, show 2 * j + 1 < l.length by omega]
theorem chunk_c (l : List (List UInt8)) : PC (envOf Tryd.prog) 89 [hsD l, iD 2] (.fn 111 (listD [.ip (hsD l), .ip (iD 2)])) := by
  have hX := and_true; refine PC_atX Tryd.func89 rfl Tryd.ntmps89 Tryd.results89 rfl (by simp only [argsL, Nat.reduceAdd, u32D, u8D, iD, bD, strD, u32_xor, u32_or, u32_and, u32_add, u32_not, u32_shr, u32_shl, u8_u32, u32_u8]; exact rfl) ?_; intro w0 A
  have hX := And.intro hsD_eq (and_true)
  (repeat refine DX_seq ?_); refine rgx [2, 3] ?_
  (repeat refine DX_seq ?_); refine rgx [2, 3, 6] ?_
  (repeat refine DX_seq ?_); refine iffx ?_
  (repeat refine DX_seq ?_); refine DX_skip ?_
  (repeat refine DX_seq ?_); refine rgx [4] ?_
  (repeat refine DX_seq ?_); refine DX_ret ?_; refine retx ?_; (try dsimp only [outV, unlist])
  exact Fin_frz rfl rfl rfl
set_option maxHeartbeats 4000000 in
theorem chunkG (l : List (List UInt8)) (n : Nat) (hl : l.length = 2 * n) (hb : n ≤ 1000000) : SeqX (envOf Tryd.prog) 111 (listD [.ip (hsD l), .ip (iD 2)]) (chunksI l n) := by
  have hX := and_true; refine SeqX_at Tryd.func111 rfl Tryd.ntmps111 Tryd.results111 rfl rfl rfl ?_; intro k; refine DX_args (by simp only [argsL, Nat.reduceAdd, u32D, u8D, iD, bD, strD, u32_xor, u32_or, u32_and, u32_add, u32_not, u32_shr, u32_shl, u8_u32, u32_u8]; exact rfl) ?_
  have hX := And.intro hsD_eq (and_true)
  (repeat refine DX_seq ?_); refine rgx [0, 1, 2, 4] ?_
  (repeat refine DX_seq ?_); refine DX_block ?_
  (repeat refine DX_seq ?_); refine DX_loop (fun m g st => ∃ j, j + m = n ∧ g = (chunksI l j, true) ∧ st = mk [(0, .v (.func (.yield k.l) #[] #[])), (1, .ip (hsD l)), (2, .ip (iD 2)), (4, iD ((2 * j : Nat) : Int))] []) n ⟨_, WeakX.refl _, 0, by omega, rfl, rfl⟩ ?_
  rintro m _ _ ⟨j, hj, rfl, rfl⟩
  have i1 : (l.length : Int) = ((2 * n : Nat) : Int) := by omega
  have hX := And.intro hsD_eq (i1)
  (repeat refine DX_seq ?_); refine rgx [0, 1, 2, 4, 9] ?_
  (repeat refine DX_seq ?_); refine ifx ?_ ?_
  · intro hc; (try simp only [hcs, ne_eq] at hc)
    have hjn : j < n := by omega
    have e1 : (if (((l.drop (2 * j)).length : Nat) : Int) < 2 then (((l.drop (2 * j)).length : Nat) : Int) else 2) = 2 := by rw [List.length_drop]; split <;> omega
    have e2 : (((2 * j : Nat) : Int) + 2).toNat = 2 * j + 2 := by omega
    have e3 := cut2 l j (by omega)
    (repeat refine DX_seq ?_); refine DX_skip ?_
    (repeat refine DX_seq ?_); refine DX_block ?_
    have hX := And.intro hsD_eq (And.intro i1 (e1))
    (repeat refine DX_seq ?_); refine rqx [0, 1, 2, 4, 5] ?_
    have hX := And.intro hsD_eq (And.intro i1 (And.intro e2 (e3)))
    (repeat refine DX_seq ?_); refine DX_regL ?_; refine DL_split 10 ?_; intro w0 A S0 f0; simp only [List.take, List.drop]; (repeat ((with_reducible show DR _ _ _ (_ :: _) _); first | (refine cx _ (envG _ _ _ _ _ _) rfl rfl rfl rfl rfl ?_ (hc := by first | fail))  | (refine sx ?_))); refine DR_nil ?_
    refine DL_yield rfl rfl (fun _ _ _ _ => rfl) (fun _ _ _ _ => by simp only [byteD, implies_true, setD, bslF, buildF, buildL, List.zip_cons_cons, List.zip_nil_right, List.zip_nil_left, pureD, rng0, rng1, rng2, rng3, rng4, rng5, rng6, rng7, rng8, List.getD_cons_zero, List.getD_cons_succ, Nat.reduceLeDiff, decide_true, decide_false, List.all_cons, List.all_nil, dqF, nilF, callQ, argsD, Op.operands, Call.operands, evD, cD, gip, upd, look, List.map, List.map_cons, List.map_nil, binF, binI, shI, binS, unF, wD, kLo, kHi, kMod, kBits, convF, loadF, fieldF, faddrF, indexF, iaddrF, lenF, lenD, sliceF, sliceF3, minF, sliceD, cutL, bndF, sub, nc, aggT, aggB, scB, tnth, elems, L_B, L_mk, List.getElem?_cons_zero, List.getElem?_cons_succ, reduceIte, reduceCtorEq, Option.isSome, List.toList_toArray, Nat.reduceAdd, Nat.reduceSub, Nat.reduceMul, Nat.reduceEqDiff, Nat.reduceLT, Nat.reduceBEq, mkF, mkG, Bool.and_true, Bool.true_and, Bool.and_false, Bool.false_and, beq_self_eq_true, mkC, Int.reduceToNat, Int.toNat_natCast, Int.reduceAdd, Int.reduceSub, Int.reduceMul, Nat.zero_add, Nat.add_zero, Nat.mul_one, and_true, true_and, Option.getD_some, Option.getD_none, ne_eq, not_true_eq_false, not_false_eq_true, decide_not, Bool.not_true, Bool.not_false, Int.reduceLT, Int.reduceLE, Int.reduceEq, Int.reduceNe, Int.reduceGT, Int.reduceGE, gt_iff_lt, ge_iff_le, Nat.reduceLT, Nat.reduceLeDiff, u32D, u8D, iD, bD, strD, u32_xor, u32_or, u32_and, u32_add, u32_not, u32_shr, u32_shl, u8_u32, u32_u8, Array.toList_append, List.cons_append, List.nil_append, hX]; exact rfl) rfl ?_ ?_ ?_
    · show chunksI l j ++ [[hsD [l.getD (2 * j) [], l.getD (2 * j + 1) []]]] <+: _
      rw [chunksI_succ]; exact chunksI_pre l (by omega)
    · refine DL_split 1 ?_; intro w0 A S0 f0; simp only [List.take, List.drop]; (repeat ((with_reducible show DR _ _ _ (_ :: _) _); first | (refine cx _ (envG _ _ _ _ _ _) rfl rfl rfl rfl rfl ?_ (hc := by first | fail))  | (refine sx ?_))); refine DR_nil ?_; refine DL_nil [0, 1, 2, 4, 30] (kl1 ?_)
      (repeat refine DX_seq ?_); refine iffx ?_
      (repeat refine DX_seq ?_); refine DX_skip ?_
      (repeat refine DX_seq ?_); refine rgx [0, 1, 2, 4] ?_
      exact ⟨_, m - 1, WeakX.refl _, by omega, j + 1, by omega, congrArg (·, true) (chunksI_succ l j), by simp [iD, Int.mul_add, hsD_eq]⟩
    · refine DL_split 1 ?_; intro w0 A S0 f0; simp only [List.take, List.drop]; (repeat ((with_reducible show DR _ _ _ (_ :: _) _); first | (refine cx _ (envG _ _ _ _ _ _) rfl rfl rfl rfl rfl ?_ (hc := by first | fail))  | (refine sx ?_))); refine DR_nil ?_; refine DL_nil [0, 1, 2, 4, 30] (kl1 ?_)
      (repeat refine DX_seq ?_); refine iftx ?_
      refine DX_ret ?_
      exact ⟨.inr rfl, fun h => by cases h⟩
  · intro hc; (try simp only [hcs, ne_eq] at hc)
    obtain rfl : j = n := by omega
    (repeat refine DX_seq ?_); refine DX_exit ?_
    exact ⟨.inl rfl, fun _ => rfl⟩
theorem up_take (l : List (List UInt8)) (j : Nat) (h : 2 * j + 2 ≤ l.length) : upS (l.take (2 * (j + 1))) = upS (l.take (2 * j)) ++ [aboveS (l.getD (2 * j) []) (l.getD (2 * j + 1) [])] := by
  rw [show 2 * (j + 1) = 2 * j + 2 by omega, ← List.take_append_drop (2 * j) (l.take (2 * j + 2)), cut2 l j h, List.take_take, show min (2 * j) (2 * j + 2) = 2 * j by omega]
  exact upS_snoc _ _ _ (by rw [List.length_take]; omega)
theorem getD_all {l : List (List UInt8)} {n : Nat} (h : ∀ x ∈ l, x.length = n) {i : Nat} (hi : i < l.length) : (l.getD i []).length = n := by
  rw [List.getD_eq_getElem?_getD, List.getElem?_eq_getElem hi]
  exact h _ (List.getElem_mem hi)
set_option maxHeartbeats 4000000 in
theorem up_c (l : List (List UInt8)) (n : Nat) (hl : l.length = 2 * n) (hb : n ≤ 1000000) (h32 : ∀ x ∈ l, x.length = 32) : PC (envOf Tryd.prog) 58 [rowD l] (rowD (upS l)) := by
  have hh : ∀ h, hashD h = .arr .u8 32 (fun i => ((h.getD i 0).toNat : Int)) := fun _ => rfl
  have hX := and_true; refine PC_atX Tryd.func58 rfl Tryd.ntmps58 Tryd.results58 rfl (by simp only [argsL, Nat.reduceAdd, u32D, u8D, iD, bD, strD, u32_xor, u32_or, u32_and, u32_add, u32_not, u32_shr, u32_shl, u8_u32, u32_u8]; exact rfl) ?_; intro w0 A
  have hX := And.intro rowD_eq (and_true)
  (repeat refine DX_seq ?_); refine rgx [1, 2, 4] ?_
  (repeat refine DX_seq ?_); refine rgx [1, 2, 3] ?_
  have hK := And.intro (chunk_c l) trivial; (repeat refine DX_seq ?_); refine rgx [1, 2, 3, 10] ?_
  (repeat refine DX_seq ?_); refine DX_block ?_
  refine DX_weak (fun _ _ _ _ => Weak.nil_ownC 2 24 32 rfl) ?_
  refine DX_rangeX (items := chunksI l n) [0, 1, 2] [1, 2, 3] (fun pre => [some (.one (rowD l)), some (.one (.cons (.v (.slice none 0 0)) (.cons (.v .nilFunc) .nil))), some (.one (.cons (.own 3 pre.length 24 32) (.cons (.fn 22 .nil) .nil))), some (.row ((upS (l.take (2 * pre.length))).map hashD) 24 32)]) (fun _ _ => False)
    (chunkG l n hl hb) (by kernel_rfl) rfl (fun _ _ _ _ => rfl) rfl rfl rfl rfl rfl (fun x hx => ?_) (fun M L pre x hx => ?_) ?_ (fun _ _ h => h.elim)
  · simp only [chunksI, List.mem_map] at hx; obtain ⟨j, _, rfl⟩ := hx; rfl
  · obtain ⟨hj, rfl⟩ := chunksI_at hx
    have ha := getD_all h32 (i := 2 * pre.length) (by omega)
    have hb := getD_all h32 (i := 2 * pre.length + 1) (by omega)
    have hu := up_take l pre.length (by omega)
    have hul : (upS (l.take (2 * pre.length))).length = pre.length := by rw [upS_len, List.length_take]; omega
    generalize l.getD (2 * pre.length) [] = a at *
    generalize l.getD (2 * pre.length + 1) [] = b at *
    refine DX_drop1 [1, 2, 3, 11] ?_
    (repeat refine DX_seq ?_); refine rgx [1, 3, 4] ?_
    intro M2
    (repeat refine DX_seq ?_); refine DX_block ?_
    have hX := And.intro hul (hsD_eq)
    have hK := And.intro (above_c a b ha hb) trivial; (repeat refine DX_seq ?_); refine rtx 12 [] ?_
    exact .inl ⟨rfl, _, WeakX.refl _, by rw [List.length_append, List.length_singleton, hu]; simp [rowD, hsD, kil, mk]⟩
  · rw [chunksI_len, List.take_of_length_le (by omega)]
    have hul : (upS l).length = n := by rw [upS_len]; omega
    have hX := And.intro rowD_eq (and_true)
    (repeat refine DX_seq ?_); refine rgx [2] ?_
    (repeat refine DX_seq ?_); refine DX_ret ?_; refine retx ?_; (try dsimp only [outV, unlist])
    refine Fin_agg rfl rfl rfl (fun i hi => ?_)
    rcases (show i = 0 ∨ i = 1 from by have : i < 2 := hi; omega) with rfl | rfl
    · show Fin1 _ (.own 3 n 24 32) (.sl (upS l) ([] : List UInt8) hashD)
      refine Fin1_of rfl rfl (Fin_elems rfl (by simp only [elems, List.getElem?_cons_zero, List.getElem?_cons_succ]; exact rfl) (by simp [hul]) ?_ (fun _ => rfl))
      rw [List.take_of_length_le (by simp [hul])]
    · exact Fin1_pure rfl
end Go.Proofs.YtedioenakmgdiaaDoor

namespace Go.Proofs.YtedioenakmgdiaaDoor
set_option linter.unusedSimpArgs false
set_option linter.unusedVariables false
set_option maxRecDepth 10000
open Go.RowKit
def upN (l : List (List UInt8)) : Nat → List (List UInt8)
  | 0 => l
  | j + 1 => upS (upN l j)
theorem upN_len (l : List (List UInt8)) (k j : Nat) (h : l.length = 2 ^ k) (hj : j ≤ k) : (upN l j).length = 2 ^ (k - j) := by
  induction j with
  | zero => exact h
  | succ j ih =>
    simp only [upN, upS_len]
    rw [ih (by omega), show k - j = (k - (j + 1)) + 1 by omega, Nat.pow_succ]
    omega
theorem upN_all (l : List (List UInt8)) (h : ∀ x ∈ l, x.length = 32) : ∀ j, ∀ x ∈ upN l j, x.length = 32
  | 0 => h
  | j + 1 => upS_all _
theorem upN_root : ∀ (k j : Nat) (l : List (List UInt8)), j ≤ k → rootP k l = rootP (k - j) (upN l j)
  | k, 0, l, _ => rfl
  | k, j + 1, l, h => by
    rw [upN_root k j l (by omega), show k - j = (k - (j + 1)) + 1 by omega]
    rfl
def levI (l : List (List UInt8)) (k : Nat) : List (List D) := (List.range k).map fun (j : Nat) => [hsD (upN l j)]
theorem levI_succ (l : List (List UInt8)) (k : Nat) : levI l k ++ [[hsD (upN l k)]] = levI l (k + 1) := by simp [levI, List.range_succ]
theorem levI_pre (l : List (List UInt8)) {k m : Nat} (h : k ≤ m) : levI l k <+: levI l m := by
  obtain ⟨d, rfl⟩ := Nat.exists_eq_add_of_le h
  refine ⟨(List.range d).map fun (j : Nat) => [hsD (upN l (k + j))], ?_⟩
  simp only [levI, List.range_add, List.map_append, List.map_map]
  rfl
theorem levI_len (l : List (List UInt8)) (k : Nat) : (levI l k).length = k := by simp [levI]
theorem levI_at {l : List (List UInt8)} {pre : List (List D)} {x : List D} {m : Nat} (h : pre ++ [x] <+: levI l m) : pre.length < m ∧ x = [hsD (upN l pre.length)] := by
  have hl := h.length_le
  rw [levI_len] at hl
  simp at hl
  refine ⟨by omega, ?_⟩
  have h1 := h.getElem (i := pre.length) (by simp)
  rw [List.getElem_append_right (by omega)] at h1
  simp only [Nat.sub_self, List.getElem_singleton] at h1
  rw [h1]
  simp [levI]
theorem levels_c (l : List (List UInt8)) : PC (envOf Tryd.prog) 60 [rowD l] (.fn 90 (listD [.ip (rowD l)])) := by
  have hX := and_true; refine PC_atX Tryd.func60 rfl Tryd.ntmps60 Tryd.results60 rfl (by simp only [argsL, Nat.reduceAdd, u32D, u8D, iD, bD, strD, u32_xor, u32_or, u32_and, u32_add, u32_not, u32_shr, u32_shl, u8_u32, u32_u8]; exact rfl) ?_; intro w0 A
  have hX := And.intro rowD_eq (and_true)
  (repeat refine DX_seq ?_); refine rgx [1] ?_
  (repeat refine DX_seq ?_); refine rgx [2] ?_
  (repeat refine DX_seq ?_); refine DX_ret ?_; refine retx ?_; (try dsimp only [outV, unlist])
  exact Fin_frz rfl rfl rfl
theorem two_pow_big {k : Nat} (h : k ≤ 7) : 2 ^ k ≤ 128 := Nat.le_trans (Nat.pow_le_pow_right (by omega) h) (by decide)
set_option maxHeartbeats 4000000 in
theorem levelsG (l : List (List UInt8)) (ht : Nat) (hl : l.length = 2 ^ ht) (hk : ht ≤ 7) (h32 : ∀ x ∈ l, x.length = 32) : SeqX (envOf Tryd.prog) 90 (listD [.ip (rowD l)]) (levI l ht) := by
  have hX := and_true; refine SeqX_at Tryd.func90 rfl Tryd.ntmps90 Tryd.results90 rfl rfl rfl ?_; intro k; refine DX_args (by simp only [argsL, Nat.reduceAdd, u32D, u8D, iD, bD, strD, u32_xor, u32_or, u32_and, u32_add, u32_not, u32_shr, u32_shl, u8_u32, u32_u8]; exact rfl) ?_
  have hX := And.intro rowD_eq (and_true)
  (repeat refine DX_seq ?_); refine rgx [0, 3] ?_
  (repeat refine DX_seq ?_); refine DX_block ?_
  (repeat refine DX_seq ?_); refine DX_loop (fun m g st => ∃ j, j + m = ht ∧ g = (levI l j, true) ∧ st = mk [(0, .v (.func (.yield k.l) #[] #[])), (3, .ptr 0 0)] [some (.one (rowD (upN l j)))]) ht ⟨_, WeakX.refl _, 0, by omega, rfl, rfl⟩ ?_
  rintro m _ _ ⟨j, hj, rfl, rfl⟩
  have hlen := upN_len l ht j hl (by omega)
  have hall := upN_all l h32 j
  have hpb := two_pow_big hk
  have hpj := two_pow_big (show ht - j ≤ 7 by omega)
  have hsuc : upN l (j + 1) = upS (upN l j) := rfl
  have hi := levI_succ l j
  have hpr := fun h => levI_pre l (k := j + 1) (m := ht) h
  rw [← hi] at hpr
  generalize hu : upN l j = u at *
  have hX := And.intro rowD_eq (and_true)
  (repeat refine DX_seq ?_); refine rgx [0, 3, 8] ?_
  (repeat refine DX_seq ?_); refine ifx ?_ ?_
  · intro hc; (try simp only [hcs, ne_eq] at hc)
    have hjk : j < ht := by
      rcases Nat.lt_or_ge j ht with h | h
      · exact h
      · rw [show ht - j = 0 by omega] at hlen; omega
    have hev : u.length = 2 * 2 ^ (ht - (j + 1)) := by rw [hlen, show ht - j = (ht - (j + 1)) + 1 by omega, Nat.pow_succ]; omega
    (repeat refine DX_seq ?_); refine DX_skip ?_
    (repeat refine DX_seq ?_); refine DX_block ?_
    have hX := And.intro rowD_eq (and_true)
    (repeat refine DX_seq ?_); refine DX_regL ?_; refine DL_split 3 ?_; intro w0 A S0 f0; simp only [List.take, List.drop]; (repeat ((with_reducible show DR _ _ _ (_ :: _) _); first | (refine cx _ (envG _ _ _ _ _ _) rfl rfl rfl rfl rfl ?_ (hc := by first | fail))  | (refine sx ?_))); refine DR_nil ?_
    refine DL_yield rfl rfl (fun _ _ _ _ => rfl) (fun _ _ _ _ => by simp only [byteD, implies_true, setD, bslF, buildF, buildL, List.zip_cons_cons, List.zip_nil_right, List.zip_nil_left, pureD, rng0, rng1, rng2, rng3, rng4, rng5, rng6, rng7, rng8, List.getD_cons_zero, List.getD_cons_succ, Nat.reduceLeDiff, decide_true, decide_false, List.all_cons, List.all_nil, dqF, nilF, callQ, argsD, Op.operands, Call.operands, evD, cD, gip, upd, look, List.map, List.map_cons, List.map_nil, binF, binI, shI, binS, unF, wD, kLo, kHi, kMod, kBits, convF, loadF, fieldF, faddrF, indexF, iaddrF, lenF, lenD, sliceF, sliceF3, minF, sliceD, cutL, bndF, sub, nc, aggT, aggB, scB, tnth, elems, L_B, L_mk, List.getElem?_cons_zero, List.getElem?_cons_succ, reduceIte, reduceCtorEq, Option.isSome, List.toList_toArray, Nat.reduceAdd, Nat.reduceSub, Nat.reduceMul, Nat.reduceEqDiff, Nat.reduceLT, Nat.reduceBEq, mkF, mkG, Bool.and_true, Bool.true_and, Bool.and_false, Bool.false_and, beq_self_eq_true, mkC, Int.reduceToNat, Int.toNat_natCast, Int.reduceAdd, Int.reduceSub, Int.reduceMul, Nat.zero_add, Nat.add_zero, Nat.mul_one, and_true, true_and, Option.getD_some, Option.getD_none, ne_eq, not_true_eq_false, not_false_eq_true, decide_not, Bool.not_true, Bool.not_false, Int.reduceLT, Int.reduceLE, Int.reduceEq, Int.reduceNe, Int.reduceGT, Int.reduceGE, gt_iff_lt, ge_iff_le, Nat.reduceLT, Nat.reduceLeDiff, u32D, u8D, iD, bD, strD, u32_xor, u32_or, u32_and, u32_add, u32_not, u32_shr, u32_shl, u8_u32, u32_u8, Array.toList_append, List.cons_append, List.nil_append, hX]; exact rfl) rfl ?_ ?_ ?_
    · exact hpr (by omega)
    · refine DL_split 1 ?_; intro w0 A S0 f0; simp only [List.take, List.drop]; (repeat ((with_reducible show DR _ _ _ (_ :: _) _); first | (refine cx _ (envG _ _ _ _ _ _) rfl rfl rfl rfl rfl ?_ (hc := by first | fail))  | (refine sx ?_))); refine DR_nil ?_; refine DL_nil [0, 3, 15] (kl1 ?_)
      (repeat refine DX_seq ?_); refine iffx ?_
      (repeat refine DX_seq ?_); refine DX_skip ?_
      (repeat refine DX_seq ?_); refine rgx [0, 16] ?_
      (repeat refine DX_seq ?_); refine rgx [0, 3] ?_
      (repeat refine DX_seq ?_); refine DX_reg [0, 3] ?_; intro w0 A S0 f0; (repeat ((with_reducible show DR _ _ _ (_ :: _) _); first | (refine cx _ (envG _ _ _ _ _ _) rfl rfl rfl rfl rfl ?_ (hc := by first | exact up_c u _ hev (by omega) hall))  | (refine sx ?_))); refine DR_nil ?_; refine kl1 ?_
      refine ⟨_, m - 1, WeakX.shift rfl rfl, by omega, j + 1, by omega, congrArg (·, true) hi, ?_⟩
      rw [hsuc]; rfl
    · refine DL_split 1 ?_; intro w0 A S0 f0; simp only [List.take, List.drop]; (repeat ((with_reducible show DR _ _ _ (_ :: _) _); first | (refine cx _ (envG _ _ _ _ _ _) rfl rfl rfl rfl rfl ?_ (hc := by first | fail))  | (refine sx ?_))); refine DR_nil ?_; refine DL_nil [0, 3, 15] (kl1 ?_)
      (repeat refine DX_seq ?_); refine iftx ?_
      refine DX_ret ?_
      exact ⟨.inr rfl, fun h => by cases h⟩
  · intro hc; (try simp only [hcs, ne_eq] at hc)
    obtain rfl : j = ht := by
      rcases Nat.lt_or_ge j ht with h | h
      · exfalso
        have : 2 ^ (ht - j) ≥ 2 ^ 1 := Nat.pow_le_pow_right (by omega) (by omega)
        omega
      · omega
    (repeat refine DX_seq ?_); refine DX_exit ?_
    exact ⟨.inl rfl, fun _ => rfl⟩
end Go.Proofs.YtedioenakmgdiaaDoor

namespace Go.Proofs.YtedioenakmgdiaaDoor
set_option linter.unusedSimpArgs false
set_option linter.unusedVariables false
set_option maxRecDepth 10000
open Go.RowKit
theorem fit_yes {k : Nat} (h : k ≤ 7) : fitB (2 ^ k) = true := by
  have : ∀ k : _root_.Fin 8, fitB (2 ^ k.val) = true := by decide +kernel
  exact this ⟨k, by omega⟩
theorem fit_pow {n : Nat} (h : fitB n = true) : ∃ k, k ≤ 7 ∧ n = 2 ^ k := by
  simp only [fitB, Bool.or_eq_true, beq_iff_eq] at h
  rcases h with ((((((h | h) | h) | h) | h) | h) | h) | h
  · exact ⟨0, by omega, h⟩
  · exact ⟨1, by omega, h⟩
  · exact ⟨2, by omega, h⟩
  · exact ⟨3, by omega, h⟩
  · exact ⟨4, by omega, h⟩
  · exact ⟨5, by omega, h⟩
  · exact ⟨6, by omega, h⟩
  · exact ⟨7, by omega, h⟩
def hzD : D := .arr .u8 32 (fun _ => 0)
theorem hzD_eq : hzD = .arr .u8 32 (fun _ => 0) := rfl
/-- a sum, or none -/
def heD (h : List UInt8) (e : Int) : D := .tup (.cons (hashD h) (.cons (iD e) .nil))
def hnD : D := .tup (.cons hzD (.cons (iD 1) .nil))
set_option maxHeartbeats 4000000 in
theorem rootNo_c (l : List (List UInt8)) (hf : fitB l.length = false) : PC (envOf Tryd.prog) 14 [hsD l] hnD := by
  have hX := and_true; refine PC_atX Tryd.func14 rfl Tryd.ntmps14 Tryd.results14 rfl (by simp only [argsL, Nat.reduceAdd, u32D, u8D, iD, bD, strD, u32_xor, u32_or, u32_and, u32_add, u32_not, u32_shr, u32_shl, u8_u32, u32_u8]; exact rfl) ?_; intro w0 A
  have hX := And.intro hsD_eq (hf)
  have hK := And.intro (fits_c l.length) trivial; (repeat refine DX_seq ?_); refine rgx [0, 2] ?_
  (repeat refine DX_seq ?_); refine rgx [0, 2, 8] ?_
  (repeat refine DX_seq ?_); refine iftx ?_
  (repeat refine DX_seq ?_); refine rgx [2, 3] ?_
  (repeat refine DX_seq ?_); refine DX_ret ?_; refine retx ?_; (try dsimp only [outV, unlist])
  exact Fin_pure rfl
set_option maxHeartbeats 4000000 in
theorem rootOk_c (l : List (List UInt8)) (k : Nat) (hl : l.length = 2 ^ k) (hk : k ≤ 7) (h32 : ∀ x ∈ l, x.length = 32) : PC (envOf Tryd.prog) 14 [hsD l] (heD (rootP k l) 0) := by
  have hf : fitB l.length = true := by rw [hl]; exact fit_yes hk
  have hh : ∀ h, hashD h = .arr .u8 32 (fun i => ((h.getD i 0).toNat : Int)) := fun _ => rfl
  have hX := and_true; refine PC_atX Tryd.func14 rfl Tryd.ntmps14 Tryd.results14 rfl (by simp only [argsL, Nat.reduceAdd, u32D, u8D, iD, bD, strD, u32_xor, u32_or, u32_and, u32_add, u32_not, u32_shr, u32_shl, u8_u32, u32_u8]; exact rfl) ?_; intro w0 A
  have hX := And.intro hsD_eq (hf)
  have hK := And.intro (fits_c l.length) trivial; (repeat refine DX_seq ?_); refine rgx [0, 2] ?_
  (repeat refine DX_seq ?_); refine rgx [0, 2, 8] ?_
  (repeat refine DX_seq ?_); refine iffx ?_
  (repeat refine DX_seq ?_); refine DX_skip ?_
  have hX := And.intro hsD_eq (hf)
  (repeat refine DX_seq ?_); refine rgx [2, 4] ?_
  (repeat refine DX_seq ?_); refine DX_block ?_
  (repeat refine DX_seq ?_); refine DX_loop (fun m _ st => ∃ j, j + m = k ∧ st = mk [(2, .ptr 0 0), (4, .ptr 1 0)] [some (.one hzD), some (.one (rowD (upN l j)))]) k ⟨_, WeakX.refl _, 0, by omega, rfl⟩ ?_
  rintro m _ _ ⟨j, hj, rfl⟩
  have hlen := upN_len l k j hl (by omega)
  have hall := upN_all l h32 j
  have hpj := two_pow_big (show k - j ≤ 7 by omega)
  have hsuc : upN l (j + 1) = upS (upN l j) := rfl
  have hro := upN_root k j l (by omega)
  generalize hu : upN l j = u at *
  have hX := And.intro rowD_eq (hzD_eq)
  (repeat refine DX_seq ?_); refine rgx [2, 4, 15] ?_
  (repeat refine DX_seq ?_); refine ifx ?_ ?_
  · intro hc; (try simp only [hcs, ne_eq] at hc)
    have hjk : j < k := by
      rcases Nat.lt_or_ge j k with h | h
      · exact h
      · rw [show k - j = 0 by omega] at hlen; omega
    have hev : u.length = 2 * 2 ^ (k - (j + 1)) := by rw [hlen, show k - j = (k - (j + 1)) + 1 by omega, Nat.pow_succ]; omega
    (repeat refine DX_seq ?_); refine DX_skip ?_
    (repeat refine DX_seq ?_); refine DX_block ?_
    have hX := And.intro rowD_eq (hzD_eq)
    (repeat refine DX_seq ?_); refine DX_reg [2, 4] ?_; intro w0 A S0 f0; (repeat ((with_reducible show DR _ _ _ (_ :: _) _); first | (refine cx _ (envG _ _ _ _ _ _) rfl rfl rfl rfl rfl ?_ (hc := by first | exact up_c u _ hev (by omega) hall))  | (refine sx ?_))); refine DR_nil ?_; refine kl1 ?_
    refine ⟨_, m - 1, WeakX.refl _, by omega, j + 1, by omega, ?_⟩
    rw [hsuc]; rfl
  · intro hc; (try simp only [hcs, ne_eq] at hc)
    obtain rfl : j = k := by
      rcases Nat.lt_or_ge j k with h | h
      · exfalso
        have : 2 ^ (k - j) ≥ 2 ^ 1 := Nat.pow_le_pow_right (by omega) (by omega)
        omega
      · omega
    have hul : 0 < u.length := by rw [hlen, Nat.sub_self]; decide
    rw [hro, Nat.sub_self]
    show DX _ _ _ _ _ _
    (repeat refine DX_seq ?_); refine DX_exit ?_
    have hX := And.intro rowD_eq (hzD_eq)
    (repeat refine DX_seq ?_); refine rgx [2, 3] ?_
    (repeat refine DX_seq ?_); refine DX_ret ?_; refine retx ?_; (try dsimp only [outV, unlist])
    exact Fin_pure rfl
theorem xor1 (x : Nat) : x ^^^ 1 = flip1 x := by
  have h1 : (x ^^^ 1) / 2 = x / 2 := by rw [Nat.xor_div_two]; simp
  have h2 : (x ^^^ 1) % 2 = 1 ↔ ¬ (x % 2 = 1) := by rw [Nat.xor_mod_two_eq_one]; simp
  unfold flip1
  split <;> omega
theorem shr1 (x : Nat) : (x : Int) / (2 : Int) ^ 1 = ((x / 2 : Nat) : Int) := by omega
def pathQ (l : List (List UInt8)) (i j : Nat) : List (List UInt8) := (List.range j).map fun t => (upN l t).getD (flip1 (i / 2 ^ t)) []
theorem upN_up (l : List (List UInt8)) : ∀ j, upN (upS l) j = upS (upN l j)
  | 0 => rfl
  | j + 1 => by simp only [upN]; rw [upN_up l j]
theorem pathQ_eq : ∀ (k : Nat) (l : List (List UInt8)) (i : Nat), pathQ l i k = pathP k l i
  | 0, _, _ => rfl
  | k + 1, l, i => by
    have ih := pathQ_eq k (upS l) (i / 2)
    simp only [pathP]
    rw [← ih]
    unfold pathQ
    rw [List.range_succ_eq_map, List.map_cons, List.map_map]
    congr 1
    · simp [upN]
    · apply List.map_congr_left
      intro t _
      simp only [Function.comp, upN_up]
      rw [Nat.div_div_eq_div_mul, show 2 * 2 ^ t = 2 ^ (t + 1) by rw [Nat.pow_succ]; omega]
      rfl
theorem pathQ_len (l : List (List UInt8)) (i j : Nat) : (pathQ l i j).length = j := by simp [pathQ]
theorem pathQ_succ (l : List (List UInt8)) (i j : Nat) : pathQ l i (j + 1) = pathQ l i j ++ [(upN l j).getD (flip1 (i / 2 ^ j)) []] := by simp [pathQ, List.range_succ]
/-- sums, and whether -/
def psD (l : List (List UInt8)) (e : Int) : D := .tup (.cons (hsD l) (.cons (iD e) .nil))
end Go.Proofs.YtedioenakmgdiaaDoor

namespace Go.Proofs.YtedioenakmgdiaaDoor
set_option linter.unusedSimpArgs false
set_option linter.unusedVariables false
set_option maxRecDepth 10000
open Go.RowKit
set_option maxHeartbeats 4000000 in
theorem pathNo_c (l : List (List UInt8)) (i : Int) (hf : fitB l.length = false ∨ i < 0 ∨ (l.length : Int) ≤ i) : PC (envOf Tryd.prog) 16 [hsD l, iD i] (psD [] 1) := by
  unfold psD
  cases hb : fitB l.length with
  | false =>
    have hX := and_true; refine PC_atX Tryd.func16 rfl Tryd.ntmps16 Tryd.results16 rfl (by simp only [argsL, Nat.reduceAdd, u32D, u8D, iD, bD, strD, u32_xor, u32_or, u32_and, u32_add, u32_not, u32_shr, u32_shl, u8_u32, u32_u8]; exact rfl) ?_; intro w0 A
    have hX := And.intro hsD_eq (hb)
    have hK := And.intro (fits_c l.length) trivial; (repeat refine DX_seq ?_); refine rgx [0, 3, 7] ?_
    (repeat refine DX_seq ?_); refine rggx [0, 3, 7, 21] ?_
    (repeat refine DX_seq ?_); refine iftx ?_
    (repeat refine DX_seq ?_); refine rgx [4, 5] ?_
    (repeat refine DX_seq ?_); refine DX_ret ?_; refine retx ?_; (try dsimp only [outV, unlist])
    exact Fin_tup (.cons rfl rfl Fin_nil (.cons rfl rfl (Fin_pure rfl) .nil))
  | true =>
    by_cases h0 : i < 0
    · have d1 : decide (i < 0) = true := decide_eq_true h0
      have hX := and_true; refine PC_atX Tryd.func16 rfl Tryd.ntmps16 Tryd.results16 rfl (by simp only [argsL, Nat.reduceAdd, u32D, u8D, iD, bD, strD, u32_xor, u32_or, u32_and, u32_add, u32_not, u32_shr, u32_shl, u8_u32, u32_u8]; exact rfl) ?_; intro w0 A
      have hX := And.intro hsD_eq (And.intro hb (d1))
      have hK := And.intro (fits_c l.length) trivial; (repeat refine DX_seq ?_); refine rgx [0, 3, 7] ?_
      (repeat refine DX_seq ?_); refine rggx [0, 3, 7, 21] ?_
      (repeat refine DX_seq ?_); refine iftx ?_
      (repeat refine DX_seq ?_); refine rgx [4, 5] ?_
      (repeat refine DX_seq ?_); refine DX_ret ?_; refine retx ?_; (try dsimp only [outV, unlist])
      exact Fin_tup (.cons rfl rfl Fin_nil (.cons rfl rfl (Fin_pure rfl) .nil))
    · have d1 : decide (i < 0) = false := decide_eq_false h0
      have h2 : (l.length : Int) ≤ i := by
        rcases hf with h | h | h
        · rw [hb] at h; cases h
        · omega
        · exact h
      have d2 : decide ((l.length : Int) ≤ i) = true := decide_eq_true h2
      have hX := and_true; refine PC_atX Tryd.func16 rfl Tryd.ntmps16 Tryd.results16 rfl (by simp only [argsL, Nat.reduceAdd, u32D, u8D, iD, bD, strD, u32_xor, u32_or, u32_and, u32_add, u32_not, u32_shr, u32_shl, u8_u32, u32_u8]; exact rfl) ?_; intro w0 A
      have hX := And.intro hsD_eq (And.intro hb (And.intro d1 (d2)))
      have hK := And.intro (fits_c l.length) trivial; (repeat refine DX_seq ?_); refine rgx [0, 3, 7] ?_
      (repeat refine DX_seq ?_); refine rggx [0, 3, 7, 21] ?_
      (repeat refine DX_seq ?_); refine iftx ?_
      (repeat refine DX_seq ?_); refine rgx [4, 5] ?_
      (repeat refine DX_seq ?_); refine DX_ret ?_; refine retx ?_; (try dsimp only [outV, unlist])
      exact Fin_tup (.cons rfl rfl Fin_nil (.cons rfl rfl (Fin_pure rfl) .nil))
theorem nat_lt0 (i : Nat) : decide ((i : Int) < 0) = false := decide_eq_false (by omega)
set_option maxHeartbeats 4000000 in
theorem pathOk_c (l : List (List UInt8)) (k i : Nat) (hl : l.length = 2 ^ k) (hk : k ≤ 7) (h32 : ∀ x ∈ l, x.length = 32) (hi : i < 2 ^ k) : PC (envOf Tryd.prog) 16 [hsD l, iD (i : Int)] (psD (pathP k l i) 0) := by
  have hb : fitB l.length = true := by rw [hl]; exact fit_yes hk
  have hh : ∀ h, hashD h = .arr .u8 32 (fun i => ((h.getD i 0).toNat : Int)) := fun _ => rfl
  have d1 := nat_lt0 i
  have d2 : decide ((l.length : Int) ≤ (i : Int)) = false := decide_eq_false (by omega)
  have hp := two_pow_big hk
  rw [← pathQ_eq]
  unfold psD
  have hX := and_true; refine PC_atX Tryd.func16 rfl Tryd.ntmps16 Tryd.results16 rfl (by simp only [argsL, Nat.reduceAdd, u32D, u8D, iD, bD, strD, u32_xor, u32_or, u32_and, u32_add, u32_not, u32_shr, u32_shl, u8_u32, u32_u8]; exact rfl) ?_; intro w0 A
  have hX := And.intro hsD_eq (And.intro hb (And.intro d1 (d2)))
  have hK := And.intro (fits_c l.length) trivial; (repeat refine DX_seq ?_); refine rgx [0, 3, 7] ?_
  (repeat refine DX_seq ?_); refine rggx [0, 3, 7, 21] ?_
  (repeat refine DX_seq ?_); refine iffx ?_
  (repeat refine DX_seq ?_); refine DX_skip ?_
  have hX := And.intro hsD_eq (and_true)
  (repeat refine DX_seq ?_); refine rgx [0, 3, 6] ?_
  have hX := And.intro hsD_eq (rowD_eq)
  have hK := And.intro (levels_c l) trivial; (repeat refine DX_seq ?_); refine rgx [3, 6, 24] ?_
  (repeat refine DX_seq ?_); refine DX_block ?_
  refine DX_weak (fun _ _ _ _ => Weak.nil_ownB 1 24 32 rfl) ?_
  refine DX_rangeX (items := levI l k) [0, 1] [3, 6] (fun pre => [some (.one (iD ((i / 2 ^ pre.length : Nat) : Int))), some (.one (.own 2 pre.length 24 32)), some (.row ((pathQ l i pre.length).map hashD) 24 32)]) (fun _ _ => False)
    (levelsG l k hl hk h32) (by kernel_rfl) rfl (fun _ _ _ _ => rfl) rfl ?_ rfl rfl rfl (fun x hx => ?_) (fun M L pre x hx => ?_) ?_ (fun _ _ h => h.elim)
  · simp only [List.length_nil, Nat.pow_zero, Nat.div_one]; rfl
  · simp only [levI, List.mem_map] at hx; obtain ⟨j, _, rfl⟩ := hx; rfl
  · obtain ⟨hj, rfl⟩ := levI_at hx
    have hlen := upN_len l k pre.length hl (by omega)
    have hpq := pathQ_len l i pre.length
    have hps := pathQ_succ l i pre.length
    have hfl : flip1 (i / 2 ^ pre.length) < 2 ^ (k - pre.length) := by
      have e : 2 ^ k = 2 ^ pre.length * 2 ^ (k - pre.length) := by rw [← Nat.pow_add]; congr 1; omega
      have e2 : i / 2 ^ pre.length < 2 ^ (k - pre.length) := Nat.div_lt_of_lt_mul (by omega)
      obtain ⟨z, e3⟩ : ∃ z, 2 ^ (k - pre.length) = 2 * z := ⟨2 ^ (k - pre.length - 1), by rw [← Nat.pow_succ']; congr 1; omega⟩
      clear e
      generalize 2 ^ (k - pre.length) = x at e2 e3 ⊢
      generalize i / 2 ^ pre.length = y at e2 ⊢
      unfold flip1
      split <;> omega
    have hle : i / 2 ^ pre.length ≤ 128 := Nat.le_trans (Nat.div_le_self _ _) (by omega)
    have hx1 := xor1 (i / 2 ^ pre.length)
    have hsh := shr1 (i / 2 ^ pre.length)
    have hdd : i / 2 ^ (pre.length + 1) = i / 2 ^ pre.length / 2 := by rw [Nat.pow_succ, Nat.div_div_eq_div_mul]
    rw [← hlen] at hfl
    generalize upN l pre.length = u at *
    generalize i / 2 ^ pre.length = y at *
    refine DX_drop1 [3, 6, 25] ?_
    (repeat refine DX_seq ?_); refine rgx [3, 6, 7] ?_
    intro M2
    (repeat refine DX_seq ?_); refine DX_block ?_
    have hX := And.intro hsD_eq (And.intro hx1 (hpq))
    (repeat refine DX_seq ?_); refine rtx 7 [3] ?_
    have hX := And.intro hsD_eq (hsh)
    (repeat refine DX_seq ?_); refine rgx [] ?_
    exact .inl ⟨rfl, _, WeakX.refl _, by rw [List.length_append, List.length_singleton, hdd, hps]; simp [mk, iD, hh]⟩
  · rw [levI_len]
    have hpq := pathQ_len l i k
    have hX := And.intro hpq (and_true)
    (repeat refine DX_seq ?_); refine rgx [4, 5] ?_
    (repeat refine DX_seq ?_); refine DX_ret ?_; refine retx ?_; (try dsimp only [outV, unlist])
    refine Fin_tup (.cons rfl rfl (Fin_elems rfl (by simp only [elems, List.getElem?_cons_zero, List.getElem?_cons_succ]; exact rfl) (by simp [hpq]) ?_ (fun _ => rfl)) (.cons rfl rfl (Fin_pure rfl) .nil))
    rw [List.take_of_length_le (by simp [hpq])]
end Go.Proofs.YtedioenakmgdiaaDoor

namespace Go.Proofs.YtedioenakmgdiaaDoor
set_option linter.unusedSimpArgs false
set_option linter.unusedVariables false
set_option maxRecDepth 10000
open Go.RowKit
theorem and1 (x : Nat) : x &&& 1 = x % 2 := Nat.and_two_pow_sub_one_eq_mod x 1
theorem take_one {p : List (List UInt8)} {k : Nat} (h : k < p.length) : p.take (k + 1) = p.take k ++ [p.getD k []] := by
  rw [List.take_add_one, List.getD_eq_getElem?_getD, List.getElem?_eq_getElem h]
  rfl
theorem nat_lt0' (i : Nat) : decide ((i : Int) < 0) = false := decide_eq_false (by omega)
theorem dec_mod (x : Nat) : decide (((x % 2 : Nat) : Int) = 0) = decide (x % 2 = 0) := decide_eq_decide.2 (by omega)
set_option maxHeartbeats 4000000 in
theorem climbOk_c (leaf : List UInt8) (p : List (List UInt8)) (i : Nat) (hlf : leaf.length = 32) (hp : p.length ≤ 7) (hi : i < 2 ^ p.length) (h32 : ∀ x ∈ p, x.length = 32) : PC (envOf Tryd.prog) 20 [hashD leaf, iD (i : Int), hsD p] (heD (climbP p i leaf) 0) := by
  have hh : ∀ h, hashD h = .arr .u8 32 (fun i => ((h.getD i 0).toNat : Int)) := fun _ => rfl
  have d0 : decide ((7 : Int) < (p.length : Int)) = false := decide_eq_false (by omega)
  have d1 := nat_lt0' i
  have hpb := two_pow_big hp
  have e0 : (1 : Int) * 2 ^ p.length = ((2 ^ p.length : Nat) : Int) := by simp
  have d2 : decide (((2 ^ p.length : Nat) : Int) ≤ (i : Int)) = false := decide_eq_false (by omega)
  have hX := and_true; refine PC_atX Tryd.func20 rfl Tryd.ntmps20 Tryd.results20 rfl (by simp only [argsL, Nat.reduceAdd, u32D, u8D, iD, bD, strD, u32_xor, u32_or, u32_and, u32_add, u32_not, u32_shr, u32_shl, u8_u32, u32_u8]; exact rfl) ?_; intro w0 A
  have hX := And.intro hsD_eq (And.intro hh (And.intro d0 (And.intro d1 (And.intro e0 (And.intro d2 (Int.mul_one))))))
  (repeat refine DX_seq ?_); refine rgx [1, 2, 3, 6] ?_
  (repeat refine DX_seq ?_); refine rggx [1, 2, 3, 6, 23] ?_
  (repeat refine DX_seq ?_); refine iffx ?_
  (repeat refine DX_seq ?_); refine DX_skip ?_
  (repeat refine DX_seq ?_); refine rgx [1, 3, 6, 25, 26, 27] ?_
  (repeat refine DX_seq ?_); refine DX_block ?_
  (repeat refine DX_seq ?_); refine DX_loop (fun m _ st => ∃ k, k + m = p.length ∧ st = mk [(1, iD ((i / 2 ^ k : Nat) : Int)), (3, .ptr 0 0), (6, .ptr 1 0), (25, hsD p), (26, iD (p.length : Int)), (27, iD (k : Int))] [some (.one (hashD (climbP (p.take k) i leaf))), some (.one hzD)]) p.length ⟨_, WeakX.refl _, 0, by omega, ?_⟩ ?_
  · rw [Nat.pow_zero, Nat.div_one]; rfl
  rintro m _ _ ⟨k, hk, rfl⟩
  have hX := And.intro hsD_eq (And.intro hh (hzD_eq))
  (repeat refine DX_seq ?_); refine rgx [1, 3, 6, 25, 26, 27, 28] ?_
  (repeat refine DX_seq ?_); refine ifx ?_ ?_
  · intro hc; (try simp only [hcs, ne_eq] at hc)
    have hkn : k < p.length := by omega
    have hs := climbP_snoc (p.take k) (p.getD k []) i leaf
    rw [← take_one hkn, List.length_take, Nat.min_eq_left (by omega)] at hs
    have hcl := climbP_len (p.take k) i leaf hlf
    have hxl := getD_all h32 hkn
    have hdd : i / 2 ^ (k + 1) = i / 2 ^ k / 2 := by rw [Nat.pow_succ, Nat.div_div_eq_div_mul]
    have hyl : i / 2 ^ k ≤ i := Nat.div_le_self _ _
    generalize climbP (p.take k) i leaf = at' at *
    generalize hxx : p.getD k [] = x at *
    generalize i / 2 ^ k = y at *
    have a1 := and1 y
    have s1 := shr1 y
    have dm := dec_mod y
    (repeat refine DX_seq ?_); refine DX_skip ?_
    (repeat refine DX_seq ?_); refine DX_block ?_
    have hX := And.intro hsD_eq (And.intro hh (And.intro hzD_eq (And.intro hxx (And.intro a1 (And.intro s1 (dm))))))
    (repeat refine DX_seq ?_); refine rgx [1, 3, 6, 9, 25, 26, 27] ?_
    (repeat refine DX_seq ?_); refine rgx [1, 3, 6, 9, 25, 26, 27, 33] ?_
    (repeat refine DX_seq ?_); refine ifx ?_ ?_
    · intro hc2; have hc2 := of_decide_eq_true hc2
      rw [if_pos hc2] at hs
      have hX := And.intro hsD_eq (And.intro hh (And.intro hzD_eq (s1)))
      have hK := And.intro (above_c at' x hcl hxl) trivial; (repeat refine DX_seq ?_); refine rgx [1, 3, 6, 25, 26, 27] ?_
      (repeat refine DX_seq ?_); refine rgx [1, 3, 6, 25, 26, 27] ?_
      (repeat refine DX_seq ?_); refine rgx [1, 3, 6, 25, 26, 27] ?_
      refine ⟨_, m - 1, WeakX.take 2 rfl rfl rfl, by omega, k + 1, by omega, ?_⟩
      rw [hs, hdd]; simp [iD, hsD_eq, hzD_eq, hh]
    · intro hc2; have hc2 := of_decide_eq_false hc2
      rw [if_neg hc2] at hs
      have hX := And.intro hsD_eq (And.intro hh (And.intro hzD_eq (s1)))
      have hK := And.intro (above_c x at' hxl hcl) trivial; (repeat refine DX_seq ?_); refine rgx [1, 3, 6, 25, 26, 27] ?_
      (repeat refine DX_seq ?_); refine rgx [1, 3, 6, 25, 26, 27] ?_
      (repeat refine DX_seq ?_); refine rgx [1, 3, 6, 25, 26, 27] ?_
      refine ⟨_, m - 1, WeakX.take 2 rfl rfl rfl, by omega, k + 1, by omega, ?_⟩
      rw [hs, hdd]; simp [iD, hsD_eq, hzD_eq, hh]
  · intro hc; (try simp only [hcs, ne_eq] at hc)
    obtain rfl : k = p.length := by omega
    (repeat refine DX_seq ?_); refine DX_exit ?_
    rw [List.take_length]
    have hX := And.intro hsD_eq (And.intro hh (hzD_eq))
    (repeat refine DX_seq ?_); refine rgx [6, 7] ?_
    (repeat refine DX_seq ?_); refine DX_ret ?_; refine retx ?_; (try dsimp only [outV, unlist])
    exact Fin_pure rfl
set_option maxHeartbeats 4000000 in
theorem climbNo_c (leaf : List UInt8) (p : List (List UInt8)) (i : Int) (hno : 7 < p.length ∨ i < 0 ∨ ((2 ^ p.length : Nat) : Int) ≤ i) : PC (envOf Tryd.prog) 20 [hashD leaf, iD i, hsD p] hnD := by
  have hh : ∀ h, hashD h = .arr .u8 32 (fun i => ((h.getD i 0).toNat : Int)) := fun _ => rfl
  have e0 : (1 : Int) * 2 ^ p.length = ((2 ^ p.length : Nat) : Int) := by simp
  by_cases h0 : 7 < p.length
  · have d0 : decide ((7 : Int) < (p.length : Int)) = true := decide_eq_true (by omega)
    have hX := and_true; refine PC_atX Tryd.func20 rfl Tryd.ntmps20 Tryd.results20 rfl (by simp only [argsL, Nat.reduceAdd, u32D, u8D, iD, bD, strD, u32_xor, u32_or, u32_and, u32_add, u32_not, u32_shr, u32_shl, u8_u32, u32_u8]; exact rfl) ?_; intro w0 A
    have hX := And.intro hsD_eq (And.intro hh (d0))
    (repeat refine DX_seq ?_); refine rgx [1, 2, 3, 6] ?_
    (repeat refine DX_seq ?_); refine rggx [1, 2, 3, 6, 23] ?_
    (repeat refine DX_seq ?_); refine iftx ?_
    (repeat refine DX_seq ?_); refine rgx [6, 7] ?_
    (repeat refine DX_seq ?_); refine DX_ret ?_; refine retx ?_; (try dsimp only [outV, unlist])
    exact Fin_pure rfl
  · have d0 : decide ((7 : Int) < (p.length : Int)) = false := decide_eq_false (by omega)
    have hpb := two_pow_big (show p.length ≤ 7 by omega)
    by_cases h1 : i < 0
    · have d1 : decide (i < 0) = true := decide_eq_true h1
      have hX := and_true; refine PC_atX Tryd.func20 rfl Tryd.ntmps20 Tryd.results20 rfl (by simp only [argsL, Nat.reduceAdd, u32D, u8D, iD, bD, strD, u32_xor, u32_or, u32_and, u32_add, u32_not, u32_shr, u32_shl, u8_u32, u32_u8]; exact rfl) ?_; intro w0 A
      have hX := And.intro hsD_eq (And.intro hh (And.intro d0 (d1)))
      (repeat refine DX_seq ?_); refine rgx [1, 2, 3, 6] ?_
      (repeat refine DX_seq ?_); refine rggx [1, 2, 3, 6, 23] ?_
      (repeat refine DX_seq ?_); refine iftx ?_
      (repeat refine DX_seq ?_); refine rgx [6, 7] ?_
      (repeat refine DX_seq ?_); refine DX_ret ?_; refine retx ?_; (try dsimp only [outV, unlist])
      exact Fin_pure rfl
    · have d1 : decide (i < 0) = false := decide_eq_false h1
      have d2 : decide (((2 ^ p.length : Nat) : Int) ≤ i) = true := decide_eq_true (by rcases hno with h | h | h <;> first | omega | exact h)
      clear hno
      have hpos : 1 ≤ 2 ^ p.length := Nat.one_le_two_pow
      have hob : -9223372036854775808 ≤ ((2 ^ p.length : Nat) : Int) ∧ ((2 ^ p.length : Nat) : Int) ≤ 9223372036854775807 := by omega
      have hob2 : p.length ≤ 7 := by omega
      clear h0
      have hX := and_true; refine PC_atX Tryd.func20 rfl Tryd.ntmps20 Tryd.results20 rfl (by simp only [argsL, Nat.reduceAdd, u32D, u8D, iD, bD, strD, u32_xor, u32_or, u32_and, u32_add, u32_not, u32_shr, u32_shl, u8_u32, u32_u8]; exact rfl) ?_; intro w0 A
      have hX := And.intro hsD_eq (And.intro hh (And.intro d0 (And.intro d1 (And.intro e0 (d2)))))
      (repeat refine DX_seq ?_); refine rgx [1, 2, 3, 6] ?_
      (repeat refine DX_seq ?_); refine rggx [1, 2, 3, 6, 23] ?_
      (repeat refine DX_seq ?_); refine iftx ?_
      (repeat refine DX_seq ?_); refine rgx [6, 7] ?_
      (repeat refine DX_seq ?_); refine DX_ret ?_; refine retx ?_; (try dsimp only [outV, unlist])
      exact Fin_pure rfl
end Go.Proofs.YtedioenakmgdiaaDoor
