/- Rings, made; a key's root. A ring signs; a key signs. A key signs, as the document says. -/
import Derived.Test.YtedioenakmgdiaaDoorPD
import Derived.Test.YtedioenakmgdiaaDoorPQ
import Derived.Test.YtedioenakmgdiaaDoorPU
namespace Go.Proofs.YtedioenakmgdiaaDoor
set_option linter.unusedSimpArgs false
set_option linter.unusedVariables false
set_option maxRecDepth 10000
open Go.RowKit
/-- nil somewhere in a block, as an own row without elements -/
def CellLe (d d' : D) : Prop := nc d' = nc d ∧ ∀ (C : Cx) (w : World) (bs : List (Option Nat)) (x : Value) (i : Nat), i < nc d → R1 C w bs x (cell d i) → R1 C w bs x (cell d' i)
theorem CellLe.refl (d : D) : CellLe d d := ⟨rfl, fun _ _ _ _ _ _ h => h⟩
theorem CellLe.nil (l T sz : Nat) : CellLe (.v (.slice none 0 0)) (.own l 0 T sz) := ⟨rfl, fun C w bs x i _ hx => by
  have hx' : RV C w bs x (.v (.slice none 0 0)) := hx
  show R1 C w bs x (.own l 0 T sz)
  rw [(RV_v hx').1]
  exact R1.own0⟩
theorem CellLe.cons {a a' b b' : D} (h : CellLe a a') (k : CellLe b b') : CellLe (.cons a b) (.cons a' b') := by
  refine ⟨by simp only [nc]; rw [h.1, k.1], fun C w bs x i hi hx => ?_⟩
  have hi' : i < nc a + nc b := hi
  by_cases h0 : i < nc a
  · have a1 : cell (.cons a b) i = cell a i := if_pos h0
    have a2 : cell (.cons a' b') i = cell a' i := if_pos (by rw [h.1]; exact h0)
    rw [a1] at hx
    rw [a2]
    exact h.2 C w bs x i h0 hx
  · have a1 : cell (.cons a b) i = cell b (i - nc a) := if_neg h0
    have a2 : cell (.cons a' b') i = cell b' (i - nc a) := by
      have : cell (.cons a' b') i = cell b' (i - nc a') := if_neg (by rw [h.1]; exact h0)
      rw [this, h.1]
    rw [a1] at hx
    rw [a2]
    exact k.2 C w bs x _ (by omega) hx
theorem Weak.nil_at {C : Cx} {l : List (Nat × D)} {h : List (Option Bk)} (p T sz : Nat) {d d' : D} (hp : h[p]? = some (some (.one d))) (hle : CellLe d d') : Weak C (mk l h) (mk l ((h ++ [some (Bk.row [] T sz)]).set p (some (.one d')))) :=
  (Weak.nil_row T sz).trans (Weak.one p (d := d) (by rw [List.getElem?_append_left (List.getElem?_eq_some_iff.1 hp).1]; exact hp) hle.1 fun i w bs x hi hx => hle.2 C w bs x i hi hx)
/-- a ring -/
def ringD (s : List UInt8) (h n : Int) (l : List (List UInt8)) (r : List UInt8) : D := .cons (keyD s h n) (.cons (hsD l) (.cons (hashD r) .nil))
theorem ringD_eq (s : List UInt8) (h n : Int) (l : List (List UInt8)) (r : List UInt8) : ringD s h n l r = .cons (.cons (.v (.string (B s))) (.cons (.v (.int .i64 h)) (.cons (.v (.int .i64 n)) .nil))) (.cons (.sl l ([] : List UInt8) hashD) (.cons (hashD r) .nil)) := rfl
/-- a key's root -/
def rootK (s : List UInt8) (m : Nat) : List UInt8 := rootP m (leavesS s (2 ^ m))
theorem rootK_len (s : List UInt8) (m : Nat) : (rootK s m).length = 32 := rootP_len m _ (leavesS_len s _) (leavesS_all s _)
set_option maxHeartbeats 8000000 in
theorem make_c (s : List UInt8) (m n : Nat) (h1 : s.length ≠ 0) (h2 : s.length ≤ 64) (hm : m ≤ 7) (hn : n ≤ 2 ^ m) :
    PH (envOf Tryd.prog) 37 [keyD s (m : Int) (n : Int)] [] (.tup (.cons (.ptr 0 0) (.cons (iD 0) .nil))) [some (.one (ringD s (m : Int) (n : Int) (leavesS s (2 ^ m)) (rootK s m)))] := by
  have hh : ∀ h, hashD h = .arr .u8 32 (fun i => ((h.getD i 0).toNat : Int)) := fun _ => rfl
  have ck := checkOk_c s m n h1 h2 hm hn
  have hp := two_pow_big hm
  have hq := two_pow_pos' m
  have e1 := shl_h m
  have hll := leavesS_len s (2 ^ m)
  have cr := rootOk_c (leavesS s (2 ^ m)) m hll hm (leavesS_all s _)
  have hr : rootP m (leavesS s (2 ^ m)) = rootK s m := rfl
  rw [hr] at cr
  unfold heD at cr
  generalize rootK s m = rt at *
  generalize 2 ^ m = N at *
  have hX := and_true; refine PN0_at Tryd.func37 rfl Tryd.ntmps37 Tryd.results37 rfl (by simp only [argsL, Nat.reduceAdd, u32D, u8D, iD, bD, strD, u32_xor, u32_or, u32_and, u32_add, u32_not, u32_shr, u32_shl, u8_u32, u32_u8]; exact rfl) ?_; intro w0 A
  have hX := And.intro keyD_eq (e1)
  have hK := And.intro (ck) trivial; (repeat refine DX_seq ?_); refine rgx [1] ?_
  (repeat refine DX_seq ?_); refine rgx [1, 4] ?_
  (repeat refine DX_seq ?_); refine rgx [1, 4, 12] ?_
  (repeat refine DX_seq ?_); refine iffx ?_
  (repeat refine DX_seq ?_); refine DX_skip ?_
  (repeat refine DX_seq ?_); refine rgx [1, 5] ?_
  (repeat refine DX_seq ?_); refine rgx [1, 5, 19, 20] ?_
  (repeat refine DX_seq ?_); refine DX_block ?_
  refine DX_weak (fun _ _ _ _ => Weak.nil_at 1 24 32 rfl (.cons (.refl _) (.cons (.nil 2 24 32) (.refl _)))) ?_
  refine DX_loop (fun j _ st => ∃ k, k + j = N ∧ st = mk [(1, .ptr 0 0), (5, .ptr 1 0), (19, iD (N : Int)), (20, iD (k : Int))] [some (.one (keyD s (m : Int) (n : Int))), some (.one (.cons (keyD s (m : Int) (n : Int)) (.cons (.own 2 k 24 32) (.cons hzD .nil)))), some (.row ((leavesS s k).map hashD) 24 32)]) N ⟨_, WeakX.refl _, 0, by omega, rfl⟩ ?_
  rintro j _ _ ⟨k, hk, rfl⟩
  have hX := And.intro keyD_eq (hzD_eq)
  (repeat refine DX_seq ?_); refine rgx [1, 5, 19, 20, 21] ?_
  (repeat refine DX_seq ?_); refine ifx ?_ ?_
  · intro hc; (try simp only [hcs, ne_eq] at hc)
    have hl := leavesS_len s k
    have hsu := leavesS_succ s k
    (repeat refine DX_seq ?_); refine DX_skip ?_
    (repeat refine DX_seq ?_); refine DX_block ?_
    have hX := And.intro keyD_eq (And.intro hzD_eq (And.intro hl (hh)))
    (repeat refine DX_seq ?_); refine DX_reg [1, 5, 6, 19, 20] ?_; intro w0 A S0 f0; (repeat ((with_reducible show DR _ _ _ (_ :: _) _); first | (refine cx _ (envG _ _ _ _ _ _) rfl rfl rfl rfl rfl ?_ (hc := by first | exact seed_c s _ _ k (by omega) (by omega) | exact public_c (seedS s k) (by rw [seedS_len]; omega)))  | (refine sx ?_))); refine DR_nil ?_; refine kl1 ?_
    (repeat refine DX_seq ?_); refine DX_drw1 [1, 5, 19, 20] 10 rfl rfl rfl rfl (by kernel_rfl) ?_; intro w0 A S0 f0; simp only [List.take, List.drop]; (repeat ((with_reducible show DRq _ _ _ (_ :: _) _); first | (refine cxq _ (envG _ _ _ _ _ _) rfl rfl rfl rfl rfl ?_ (hc := by first | exact seed_c s _ _ k (by omega) (by omega) | exact public_c (seedS s k) (by rw [seedS_len]; omega))) | (refine sxq ?_))); refine DRq_nil ?_; (repeat ((with_reducible show DR _ _ _ (_ :: _) _); first | (refine cx _ (envG _ _ _ _ _ _) rfl rfl rfl rfl rfl ?_ (hc := by first | exact seed_c s _ _ k (by omega) (by omega) | exact public_c (seedS s k) (by rw [seedS_len]; omega)))  | (refine sx ?_))); refine DR_nil ?_; refine kl1 ?_
    (repeat refine DX_seq ?_); refine DX_reg [1, 5, 19, 20] ?_; intro w0 A S0 f0; (repeat ((with_reducible show DR _ _ _ (_ :: _) _); first | (refine cx _ (envG _ _ _ _ _ _) rfl rfl rfl rfl rfl ?_ (hc := by first | exact seed_c s _ _ k (by omega) (by omega) | exact public_c (seedS s k) (by rw [seedS_len]; omega)))  | (refine sx ?_))); refine DR_nil ?_; refine kl1 ?_
    exact ⟨_, j - 1, WeakX.refl _, by omega, k + 1, by omega, by rw [hsu]; simp [iD, keyD_eq, hzD_eq, hh, kil, mk]⟩
  · intro hc; (try simp only [hcs, ne_eq] at hc)
    obtain rfl : k = N := by omega
    have hl := leavesS_len s k
    (repeat refine DX_seq ?_); refine DX_exit ?_
    (repeat refine DX_seq ?_); refine DX_freeze 2 (leavesS s k) ([] : List UInt8) hashD (by rfl) (by rfl) (by simp only [List.map_cons, List.map_nil, frzR, iD, reduceIte, Nat.reduceEqDiff]; exact rfl) (by simp only [List.map_cons, List.map_nil, Option.map_some, frzK, frzR, iD, strD, hzD, keyD_eq, hl, List.take_of_length_le, Nat.le_refl, reduceIte, Nat.reduceEqDiff, List.set]; exact rfl) ?_
    have hX := And.intro keyD_eq (And.intro hzD_eq (And.intro hsD_eq (hh)))
    have hK := And.intro (cr) trivial; (repeat refine DX_seq ?_); refine rgx [5, 7, 8] ?_
    (repeat refine DX_seq ?_); refine rgx [5, 7, 8, 46] ?_
    (repeat refine DX_seq ?_); refine iffx ?_
    (repeat refine DX_seq ?_); refine DX_skip ?_
    (repeat refine DX_seq ?_); refine rgx [5] ?_
    (repeat refine DX_seq ?_); refine rgx [2, 3] ?_
    (repeat refine DX_seq ?_); refine DX_ret ?_; refine retx ?_; (try dsimp only [outV, unlist])
    exact FinH.of_weak rfl ((WeakX.take 2 rfl rfl rfl).trans (WeakX.shift rfl (by simp [mk, ringD_eq, shB, shD, hh, hsD_eq, keyD_eq])))
theorem makeNo_c (s : List UInt8) (h n : Int) (hbad : badK s h n) : PC (envOf Tryd.prog) 37 [keyD s h n] (.tup (.cons (.v (.pointer none)) (.cons (iD 2) .nil))) := by
  have hX := and_true; refine PC_atX Tryd.func37 rfl Tryd.ntmps37 Tryd.results37 rfl (by simp only [argsL, Nat.reduceAdd, u32D, u8D, iD, bD, strD, u32_xor, u32_or, u32_and, u32_add, u32_not, u32_shr, u32_shl, u8_u32, u32_u8]; exact rfl) ?_; intro w0 A
  have hX := And.intro keyD_eq (and_true)
  have hK := And.intro (checkNo_c s h n hbad) trivial; (repeat refine DX_seq ?_); refine rgx [1] ?_
  (repeat refine DX_seq ?_); refine rgx [1, 4] ?_
  (repeat refine DX_seq ?_); refine rgx [1, 4, 12] ?_
  (repeat refine DX_seq ?_); refine iftx ?_
  (repeat refine DX_seq ?_); refine rgx [2, 3] ?_
  (repeat refine DX_seq ?_); refine DX_ret ?_; refine retx ?_; (try dsimp only [outV, unlist])
  exact Fin_pure rfl
set_option maxHeartbeats 4000000 in
theorem keyrootOk_c (s : List UInt8) (m n : Nat) (h1 : s.length ≠ 0) (h2 : s.length ≤ 64) (hm : m ≤ 7) (hn : n ≤ 2 ^ m) : PC (envOf Tryd.prog) 27 [keyD s (m : Int) (n : Int)] (heD (rootK s m) 0) := by
  have hh : ∀ h, hashD h = .arr .u8 32 (fun i => ((h.getD i 0).toNat : Int)) := fun _ => rfl
  have mk1 := make_c s m n h1 h2 hm hn
  generalize rootK s m = rt at *
  generalize leavesS s (2 ^ m) = lv at *
  have hX := and_true; refine PC_atX Tryd.func27 rfl Tryd.ntmps27 Tryd.results27 rfl (by simp only [argsL, Nat.reduceAdd, u32D, u8D, iD, bD, strD, u32_xor, u32_or, u32_and, u32_add, u32_not, u32_shr, u32_shl, u8_u32, u32_u8]; exact rfl) ?_; intro w0 A
  have hX := And.intro keyD_eq (And.intro ringD_eq (hh))
  (repeat refine DX_seq ?_); refine DX_reg [1, 2] ?_; intro w0 A S0 f0; (repeat ((with_reducible show DR _ _ _ (_ :: _) _); first | (refine cx _ (envG _ _ _ _ _ _) rfl rfl rfl rfl rfl ?_ (hc := by first | fail)) | (refine ex rfl (docalln (envG _ _ _ _ _ _) rfl rfl rfl (hc := by first | exact mk1)) ?_) | (refine sx ?_))); refine DR_nil ?_; refine kl1 ?_
  (repeat refine DX_seq ?_); refine DX_reg [2, 4, 5] ?_; intro w0 A S0 f0; (repeat ((with_reducible show DR _ _ _ (_ :: _) _); first | (refine cx _ (envG _ _ _ _ _ _) rfl rfl rfl rfl rfl ?_ (hc := by first | fail)) | (refine ex rfl (docalln (envG _ _ _ _ _ _) rfl rfl rfl (hc := by first | exact mk1)) ?_) | (refine sx ?_))); refine DR_nil ?_; refine kl1 ?_
  (repeat refine DX_seq ?_); refine DX_reg [2, 4, 5, 12] ?_; intro w0 A S0 f0; (repeat ((with_reducible show DR _ _ _ (_ :: _) _); first | (refine cx _ (envG _ _ _ _ _ _) rfl rfl rfl rfl rfl ?_ (hc := by first | fail)) | (refine ex rfl (docalln (envG _ _ _ _ _ _) rfl rfl rfl (hc := by first | exact mk1)) ?_) | (refine sx ?_))); refine DR_nil ?_; refine kl1 ?_
  (repeat refine DX_seq ?_); refine iffx ?_
  (repeat refine DX_seq ?_); refine DX_skip ?_
  (repeat refine DX_seq ?_); refine DX_reg [2, 3] ?_; intro w0 A S0 f0; (repeat ((with_reducible show DR _ _ _ (_ :: _) _); first | (refine cx _ (envG _ _ _ _ _ _) rfl rfl rfl rfl rfl ?_ (hc := by first | fail)) | (refine ex rfl (docalln (envG _ _ _ _ _ _) rfl rfl rfl (hc := by first | exact mk1)) ?_) | (refine sx ?_))); refine DR_nil ?_; refine kl1 ?_
  (repeat refine DX_seq ?_); refine DX_ret ?_; refine retx ?_; (try dsimp only [outV, unlist])
  exact Fin_pure rfl
/-- none -/
def hkD : D := .tup (.cons hzD (.cons (iD 2) .nil))
set_option maxHeartbeats 4000000 in
theorem keyrootNo_c (s : List UInt8) (h n : Int) (hbad : badK s h n) : PC (envOf Tryd.prog) 27 [keyD s h n] hkD := by
  have hX := and_true; refine PC_atX Tryd.func27 rfl Tryd.ntmps27 Tryd.results27 rfl (by simp only [argsL, Nat.reduceAdd, u32D, u8D, iD, bD, strD, u32_xor, u32_or, u32_and, u32_add, u32_not, u32_shr, u32_shl, u8_u32, u32_u8]; exact rfl) ?_; intro w0 A
  have hX := And.intro keyD_eq (hzD_eq)
  have hK := And.intro (makeNo_c s h n hbad) trivial; (repeat refine DX_seq ?_); refine rgx [1, 2] ?_
  (repeat refine DX_seq ?_); refine rgx [2, 4, 5] ?_
  (repeat refine DX_seq ?_); refine rgx [2, 4, 5, 12] ?_
  (repeat refine DX_seq ?_); refine iftx ?_
  (repeat refine DX_seq ?_); refine rgx [2, 3] ?_
  (repeat refine DX_seq ?_); refine DX_ret ?_; refine retx ?_; (try dsimp only [outV, unlist])
  exact Fin_pure rfl
set_option maxHeartbeats 4000000 in
theorem refkeyrootOk_c (s : List UInt8) (m n : Nat) (h1 : s.length ≠ 0) (h2 : s.length ≤ 64) (hm : m ≤ 7) (hn : n ≤ 2 ^ m) : PC (envOf Tryd.prog) 28 [keyD s (m : Int) (n : Int)] (heD (rootK s m) 0) := by
  have hh : ∀ h, hashD h = .arr .u8 32 (fun i => ((h.getD i 0).toNat : Int)) := fun _ => rfl
  have ck := refcheckOk_c s m n h1 h2 hm hn
  have cl := refleaves_c s m (n : Int) (by omega) hm
  have hll := leavesS_len s (2 ^ m)
  have cr := refrootOk_c m (leavesS s (2 ^ m)) hll hm (leavesS_all s _)
  rw [← root_eq m _ hll, show rootP m (leavesS s (2 ^ m)) = rootK s m from rfl] at cr
  unfold heD at cr ⊢
  generalize rootK s m = rt at *
  generalize leavesS s (2 ^ m) = lv at *
  have hX := and_true; refine PC_atX Tryd.func28 rfl Tryd.ntmps28 Tryd.results28 rfl (by simp only [argsL, Nat.reduceAdd, u32D, u8D, iD, bD, strD, u32_xor, u32_or, u32_and, u32_add, u32_not, u32_shr, u32_shl, u8_u32, u32_u8]; exact rfl) ?_; intro w0 A
  have hX := And.intro keyD_eq (And.intro hsD_eq (hh))
  have hK := And.intro (ck) (And.intro (cl) (And.intro (cr) trivial)); (repeat refine DX_seq ?_); refine rgx [1, 2] ?_
  (repeat refine DX_seq ?_); refine rgx [1, 2, 6] ?_
  (repeat refine DX_seq ?_); refine iffx ?_
  (repeat refine DX_seq ?_); refine DX_skip ?_
  (repeat refine DX_seq ?_); refine rgx [2, 3] ?_
  (repeat refine DX_seq ?_); refine DX_ret ?_; refine retx ?_; (try dsimp only [outV, unlist])
  exact Fin_pure rfl
set_option maxHeartbeats 4000000 in
theorem refkeyrootNo_c (s : List UInt8) (h n : Int) (hbad : badK s h n) : PC (envOf Tryd.prog) 28 [keyD s h n] hkD := by
  have hX := and_true; refine PC_atX Tryd.func28 rfl Tryd.ntmps28 Tryd.results28 rfl (by simp only [argsL, Nat.reduceAdd, u32D, u8D, iD, bD, strD, u32_xor, u32_or, u32_and, u32_add, u32_not, u32_shr, u32_shl, u8_u32, u32_u8]; exact rfl) ?_; intro w0 A
  have hX := And.intro keyD_eq (hzD_eq)
  have hK := And.intro (refcheckNo_c s h n hbad) trivial; (repeat refine DX_seq ?_); refine rgx [1, 2] ?_
  (repeat refine DX_seq ?_); refine rgx [1, 2, 6] ?_
  (repeat refine DX_seq ?_); refine iftx ?_
  (repeat refine DX_seq ?_); refine rgx [2, 3] ?_
  (repeat refine DX_seq ?_); refine DX_ret ?_; refine retx ?_; (try dsimp only [outV, unlist])
  exact Fin_pure rfl
end Go.Proofs.YtedioenakmgdiaaDoor

namespace Go.Proofs.YtedioenakmgdiaaDoor
set_option linter.unusedSimpArgs false
set_option linter.unusedVariables false
set_option maxRecDepth 10000
open Go.RowKit
/-- a signature -/
def sigK (s : List UInt8) (m n : Nat) (text : List UInt8) : List UInt8 := UInt8.ofNat n :: (signS (seedS s n) text ++ (pathP m (leavesS s (2 ^ m)) n).flatten)
theorem ofNat_b {n : Nat} (h : n < 256) : (UInt8.ofNat n).toNat = n := by rw [UInt8.toNat_ofNat']; omega
theorem flat_len : ∀ (p : List (List UInt8)), (∀ x ∈ p, x.length = 32) → p.flatten.length = 32 * p.length
  | [], _ => rfl
  | x :: p, h => by
    have h1 := h x (by simp)
    have h2 := flat_len p (fun y hy => h y (by simp [hy]))
    simp only [List.flatten_cons, List.length_append, List.length_cons, h1, h2]
    omega
theorem flat_take {p : List (List UInt8)} {k : Nat} (h : k < p.length) : (p.take (k + 1)).flatten = (p.take k).flatten ++ p.getD k [] := by
  rw [take_one h]; simp
theorem signS_len' (seed text : List UInt8) : (signS seed text).length = 1088 := by unfold signS; rw [sigN_len]
set_option maxHeartbeats 8000000 in
theorem ringSignOk_h (s text : List UInt8) (m n : Nat) (rt : List UInt8) (h2 : s.length ≤ 64) (hm : m ≤ 7) (hn : n < 2 ^ m) (ht : text.length ≤ 1000000) :
    PH (envOf Tryd.prog) 42 [.ptr 0 0, strD text] [some (.one (ringD s (m : Int) (n : Int) (leavesS s (2 ^ m)) rt))] (.tup (.cons (strD (sigK s m n text)) (.cons (iD 0) .nil))) [some (.one (ringD s (m : Int) ((n : Int) + 1) (leavesS s (2 ^ m)) rt))] := by
  have hh : ∀ h, hashD h = .arr .u8 32 (fun i => ((h.getD i 0).toNat : Int)) := fun _ => rfl
  have hp := two_pow_big hm
  have hll := leavesS_len s (2 ^ m)
  have d1 : decide ((n : Int) = ((leavesS s (2 ^ m)).length : Int)) = false := decide_eq_false (by rw [hll]; omega)
  have cp := pathOk_c (leavesS s (2 ^ m)) m n hll hm (leavesS_all s _) hn
  have hpl := pathP_len m (leavesS s (2 ^ m)) n
  have hpa := pathP_all m (leavesS s (2 ^ m)) n hll hn (leavesS_all s _)
  have cs := sign_c (seedS s n) text (by rw [seedS_len]; omega) ht
  have hsl := signS_len' (seedS s n) text
  have e1 : (n : Int) % 256 = (n : Int) := by omega
  have eb := ofNat_b (show n < 256 by omega)
  unfold sigK
  unfold psD at cp
  generalize pathP m (leavesS s (2 ^ m)) n = p at *
  generalize signS (seedS s n) text = sg at *
  generalize leavesS s (2 ^ m) = lv at *
  have hX := and_true; refine PH_atX Tryd.func42 rfl Tryd.ntmps42 Tryd.results42 rfl (by simp only [argsL, Nat.reduceAdd, u32D, u8D, iD, bD, strD, u32_xor, u32_or, u32_and, u32_add, u32_not, u32_shr, u32_shl, u8_u32, u32_u8]; exact rfl) ?_; intro w0 A bs0
  have hX := And.intro ringD_eq (And.intro hh (d1))
  (repeat refine DX_seq ?_); refine rgx [0, 1] ?_
  (repeat refine DX_seq ?_); refine rgx [0, 1, 6] ?_
  (repeat refine DX_seq ?_); refine rgx [0, 1, 6, 23] ?_
  (repeat refine DX_seq ?_); refine iffx ?_
  (repeat refine DX_seq ?_); refine DX_skip ?_
  have hX := And.intro hsD_eq (hh)
  have hK := And.intro (cp) trivial; (repeat refine DX_seq ?_); refine rgx [0, 1, 6, 7, 8] ?_
  (repeat refine DX_seq ?_); refine rgx [0, 1, 6, 7, 8, 34] ?_
  (repeat refine DX_seq ?_); refine iffx ?_
  (repeat refine DX_seq ?_); refine DX_skip ?_
  have hX := And.intro keyD_eq (And.intro hsD_eq (And.intro hh (And.intro e1 (hsl))))
  (repeat refine DX_seq ?_); refine DX_reg [0, 7, 9] ?_; intro w0 A S0 f0; iterate 2 ((with_reducible show DR _ _ _ (_ :: _) _); first | (refine cx _ (envG _ _ _ _ _ _) rfl rfl rfl rfl rfl ?_ (hc := by first | exact seed_c s (m : Int) (n : Int) n (by omega) (by omega) | exact cs))  | (refine sx ?_))
  refine ex rfl (dobsl1 rfl rfl rfl rfl rfl) ?_; (repeat ((with_reducible show DR _ _ _ (_ :: _) _); first | (refine cx _ (envG _ _ _ _ _ _) rfl rfl rfl rfl rfl ?_ (hc := by first | exact seed_c s (m : Int) (n : Int) n (by omega) (by omega) | exact cs))  | (refine sx ?_))); refine DR_nil ?_; refine kl1 ?_
  have hK := And.intro (seed_c s (m : Int) (n : Int) n (by omega) (by omega)) (And.intro (cs) trivial); (repeat refine DX_seq ?_); refine rgx [0, 9, 48, 49, 50] ?_
  (repeat refine DX_seq ?_); refine DX_block ?_
  (repeat refine DX_seq ?_); refine DX_loop (fun j _ st => ∃ k, k + j = p.length ∧ st = mk [(0, .ptr 0 0), (9, .own 1 (1 + 1088 + 32 * k) 5 1), (48, hsD p), (49, iD (p.length : Int)), (50, iD (k : Int))] [some (.one (ringD s (m : Int) (n : Int) lv rt)), some (.row ((UInt8.ofNat n :: (sg ++ (p.take k).flatten)).map byteD) 5 1)]) p.length ⟨_, WeakX.refl _, 0, by omega, ?_⟩ ?_
  · simp [iD, hsD_eq, ringD_eq, hh, byteD, eb, hsl, kil]
  rintro j _ _ ⟨k, hk, rfl⟩
  have hX := And.intro hsD_eq (And.intro hh (ringD_eq))
  (repeat refine DX_seq ?_); refine rgx [0, 9, 48, 49, 50, 51] ?_
  (repeat refine DX_seq ?_); refine ifx ?_ ?_
  · intro hc; (try simp only [hcs, ne_eq] at hc)
    have hkn : k < p.length := by omega
    have hft := flat_take hkn
    have hfl := flat_len (p.take k) (fun x hx => hpa x (List.mem_of_mem_take hx))
    rw [List.length_take, Nat.min_eq_left (by omega)] at hfl
    have hxl := getD_all hpa hkn
    generalize hxx : p.getD k [] = x at *
    have hbx := bytesDT hxl
    (repeat refine DX_seq ?_); refine DX_skip ?_
    (repeat refine DX_seq ?_); refine DX_block ?_
    have hX := And.intro hsD_eq (And.intro hh (And.intro hxx (And.intro hbx (And.intro hxl (And.intro hfl (hsl))))))
    (repeat refine DX_seq ?_); refine rgx [0, 9, 11, 48, 49, 50] ?_
    (repeat refine DX_seq ?_); refine rgx [0, 9, 48, 49, 50] ?_
    (repeat refine DX_seq ?_); refine rgx [0, 9, 48, 49, 50] ?_
    refine ⟨_, j - 1, WeakX.takeP 2 rfl rfl rfl rfl, by omega, k + 1, by omega, ?_⟩
    rw [hft]
    simp [iD, hsD_eq, hh, ringD_eq, byteD, kil, hxl, Nat.mul_add, Nat.add_assoc]
  · intro hc; (try simp only [hcs, ne_eq] at hc)
    obtain rfl : k = p.length := by omega
    have hfl := flat_len p hpa
    (repeat refine DX_seq ?_); refine DX_exit ?_
    rw [List.take_length]
    have hbl : (UInt8.ofNat n :: (sg ++ p.flatten)).length = 1089 + 32 * p.length := by
      simp only [List.length_cons, List.length_append, hfl, hsl]; omega
    have hb2 : 1 + 1088 + 32 * p.length = 1089 + 32 * p.length := by omega
    generalize UInt8.ofNat n :: (sg ++ p.flatten) = bg at *
    have hX := And.intro ringD_eq (And.intro hh (And.intro hbl (hb2)))
    (repeat refine DX_seq ?_); refine rgx [9] ?_
    (repeat refine DX_seq ?_); refine rgx [4, 5] ?_
    (repeat refine DX_seq ?_); refine DX_ret ?_; refine retx ?_; (try dsimp only [outV, unlist])
    exact FinH.of_weak rfl (WeakX.takeP 1 rfl rfl rfl rfl)
set_option maxHeartbeats 8000000 in
theorem ringSignOver_h (s text : List UInt8) (m : Nat) (rt : List UInt8) (hm : m ≤ 7) :
    PH (envOf Tryd.prog) 42 [.ptr 0 0, strD text] [some (.one (ringD s (m : Int) ((2 ^ m : Nat) : Int) (leavesS s (2 ^ m)) rt))] (.tup (.cons (strD []) (.cons (iD 10) .nil))) [some (.one (ringD s (m : Int) ((2 ^ m : Nat) : Int) (leavesS s (2 ^ m)) rt))] := by
  have hh : ∀ h, hashD h = .arr .u8 32 (fun i => ((h.getD i 0).toNat : Int)) := fun _ => rfl
  have hll := leavesS_len s (2 ^ m)
  have d1 : decide (((2 ^ m : Nat) : Int) = ((leavesS s (2 ^ m)).length : Int)) = true := decide_eq_true (by rw [hll])
  generalize leavesS s (2 ^ m) = lv at *
  generalize 2 ^ m = N at *
  have hX := and_true; refine PH_atX Tryd.func42 rfl Tryd.ntmps42 Tryd.results42 rfl (by simp only [argsL, Nat.reduceAdd, u32D, u8D, iD, bD, strD, u32_xor, u32_or, u32_and, u32_add, u32_not, u32_shr, u32_shl, u8_u32, u32_u8]; exact rfl) ?_; intro w0 A bs0
  have hX := And.intro ringD_eq (And.intro hh (d1))
  (repeat refine DX_seq ?_); refine rgx [0, 1] ?_
  (repeat refine DX_seq ?_); refine rgx [0, 1, 6] ?_
  (repeat refine DX_seq ?_); refine rgx [0, 1, 6, 23] ?_
  (repeat refine DX_seq ?_); refine iftx ?_
  (repeat refine DX_seq ?_); refine rgx [4, 5] ?_
  (repeat refine DX_seq ?_); refine DX_ret ?_; refine retx ?_; (try dsimp only [outV, unlist])
  exact FinH.refl
/-- a key behind signing, a signature, and whether -/
def ksD (k : D) (sig : List UInt8) (e : Int) : D := .tup (.cons k (.cons (strD sig) (.cons (iD e) .nil)))
theorem keyz_eq : keyD [] 0 0 = .cons (.v (.string (B []))) (.cons (.v (.int .i64 0)) (.cons (.v (.int .i64 0)) .nil)) := rfl
set_option maxHeartbeats 8000000 in
theorem keysignNo_c (s text : List UInt8) (h n : Int) (hbad : badK s h n) : PC (envOf Tryd.prog) 29 [keyD s h n, strD text] (ksD (keyD [] 0 0) [] 2) := by
  unfold ksD
  have hX := and_true; refine PC_atX Tryd.func29 rfl Tryd.ntmps29 Tryd.results29 rfl (by simp only [argsL, Nat.reduceAdd, u32D, u8D, iD, bD, strD, u32_xor, u32_or, u32_and, u32_add, u32_not, u32_shr, u32_shl, u8_u32, u32_u8]; exact rfl) ?_; intro w0 A
  have hX := And.intro keyD_eq (and_true)
  have hK := And.intro (makeNo_c s h n hbad) trivial; (repeat refine DX_seq ?_); refine rgx [1, 2, 4] ?_
  (repeat refine DX_seq ?_); refine rgx [1, 4, 7, 8] ?_
  (repeat refine DX_seq ?_); refine rgx [1, 4, 7, 8, 16] ?_
  (repeat refine DX_seq ?_); refine iftx ?_
  (repeat refine DX_seq ?_); refine rgx [4, 5, 6] ?_
  (repeat refine DX_seq ?_); refine DX_ret ?_; refine retx ?_; (try dsimp only [outV, unlist])
  exact Fin_pure rfl
set_option maxHeartbeats 8000000 in
theorem keysign_w (s text : List UInt8) (m n : Nat) (n' : Int) (sig : List UInt8) (e : Int) (lv : List (List UInt8)) (rt : List UInt8)
    (mk1 : PH (envOf Tryd.prog) 37 [keyD s (m : Int) (n : Int)] [] (.tup (.cons (.ptr 0 0) (.cons (iD 0) .nil))) [some (.one (ringD s (m : Int) (n : Int) lv rt))])
    (pm : PM (envOf Tryd.prog) 42 (ringD s (m : Int) (n : Int) lv rt) [strD text] (ringD s (m : Int) n' lv rt) (.tup (.cons (strD sig) (.cons (iD e) .nil)))) :
    PC (envOf Tryd.prog) 29 [keyD s (m : Int) (n : Int), strD text] (ksD (keyD s (m : Int) n') sig e) := by
  have hh : ∀ h, hashD h = .arr .u8 32 (fun i => ((h.getD i 0).toNat : Int)) := fun _ => rfl
  unfold ksD
  have hX := and_true; refine PC_atX Tryd.func29 rfl Tryd.ntmps29 Tryd.results29 rfl (by simp only [argsL, Nat.reduceAdd, u32D, u8D, iD, bD, strD, u32_xor, u32_or, u32_and, u32_add, u32_not, u32_shr, u32_shl, u8_u32, u32_u8]; exact rfl) ?_; intro w0 A
  have hX := And.intro keyD_eq (and_true)
  (repeat refine DX_seq ?_); refine DX_reg [1, 2, 4] ?_; intro w0 A S0 f0; (repeat ((with_reducible show DR _ _ _ (_ :: _) _); first | (refine cx _ (envG _ _ _ _ _ _) rfl rfl rfl rfl rfl ?_ (hc := by first | fail)) | (refine ex rfl (docalln (envG _ _ _ _ _ _) rfl rfl rfl (hc := by first | exact mk1)) ?_) | (refine ex rfl (DO_callM1 (envG _ _ _ _ _ _) rfl rfl rfl (hc := by first | exact pm)) ?_) | (refine sx ?_))); refine DR_nil ?_; refine kl1 ?_
  (repeat refine DX_seq ?_); refine DX_reg [1, 4, 7, 8] ?_; intro w0 A S0 f0; (repeat ((with_reducible show DR _ _ _ (_ :: _) _); first | (refine cx _ (envG _ _ _ _ _ _) rfl rfl rfl rfl rfl ?_ (hc := by first | fail)) | (refine ex rfl (docalln (envG _ _ _ _ _ _) rfl rfl rfl (hc := by first | exact mk1)) ?_) | (refine ex rfl (DO_callM1 (envG _ _ _ _ _ _) rfl rfl rfl (hc := by first | exact pm)) ?_) | (refine sx ?_))); refine DR_nil ?_; refine kl1 ?_
  (repeat refine DX_seq ?_); refine DX_reg [1, 4, 7, 8, 16] ?_; intro w0 A S0 f0; (repeat ((with_reducible show DR _ _ _ (_ :: _) _); first | (refine cx _ (envG _ _ _ _ _ _) rfl rfl rfl rfl rfl ?_ (hc := by first | fail)) | (refine ex rfl (docalln (envG _ _ _ _ _ _) rfl rfl rfl (hc := by first | exact mk1)) ?_) | (refine ex rfl (DO_callM1 (envG _ _ _ _ _ _) rfl rfl rfl (hc := by first | exact pm)) ?_) | (refine sx ?_))); refine DR_nil ?_; refine kl1 ?_
  (repeat refine DX_seq ?_); refine iffx ?_
  (repeat refine DX_seq ?_); refine DX_skip ?_
  (repeat refine DX_seq ?_); refine DX_reg [4, 7, 8, 9] ?_; intro w0 A S0 f0; (repeat ((with_reducible show DR _ _ _ (_ :: _) _); first | (refine cx _ (envG _ _ _ _ _ _) rfl rfl rfl rfl rfl ?_ (hc := by first | fail)) | (refine ex rfl (docalln (envG _ _ _ _ _ _) rfl rfl rfl (hc := by first | exact mk1)) ?_) | (refine ex rfl (DO_callM1 (envG _ _ _ _ _ _) rfl rfl rfl (hc := by first | exact pm)) ?_) | (refine sx ?_))); refine DR_nil ?_; refine kl1 ?_
  have hX := And.intro keyD_eq (And.intro ringD_eq (hh))
  (repeat refine DX_seq ?_); refine DX_reg [4, 5, 6] ?_; intro w0 A S0 f0; (repeat ((with_reducible show DR _ _ _ (_ :: _) _); first | (refine cx _ (envG _ _ _ _ _ _) rfl rfl rfl rfl rfl ?_ (hc := by first | fail)) | (refine ex rfl (docalln (envG _ _ _ _ _ _) rfl rfl rfl (hc := by first | exact mk1)) ?_) | (refine ex rfl (DO_callM1 (envG _ _ _ _ _ _) rfl rfl rfl (hc := by first | exact pm)) ?_) | (refine sx ?_))); refine DR_nil ?_; refine kl1 ?_
  (repeat refine DX_seq ?_); refine DX_ret ?_; refine retx ?_; (try dsimp only [outV, unlist])
  exact Fin_pure rfl
theorem keysignOk_c (s text : List UInt8) (m n : Nat) (h1 : s.length ≠ 0) (h2 : s.length ≤ 64) (hm : m ≤ 7) (hn : n < 2 ^ m) (ht : text.length ≤ 1000000) : PC (envOf Tryd.prog) 29 [keyD s (m : Int) (n : Int), strD text] (ksD (keyD s (m : Int) ((n : Int) + 1)) (sigK s m n text) 0) :=
  keysign_w s text m n _ _ _ _ _ (make_c s m n h1 h2 hm (by omega)) (PM_ofH (ringSignOk_h s text m n _ h2 hm hn ht) rfl rfl)
theorem keysignOver_c (s text : List UInt8) (m : Nat) (h1 : s.length ≠ 0) (h2 : s.length ≤ 64) (hm : m ≤ 7) : PC (envOf Tryd.prog) 29 [keyD s (m : Int) ((2 ^ m : Nat) : Int), strD text] (ksD (keyD s (m : Int) ((2 ^ m : Nat) : Int)) [] 10) :=
  keysign_w s text m (2 ^ m) _ _ _ _ _ (make_c s m (2 ^ m) h1 h2 hm (by omega)) (PM_ofH (ringSignOver_h s text m _ hm) rfl rfl)
end Go.Proofs.YtedioenakmgdiaaDoor

namespace Go.Proofs.YtedioenakmgdiaaDoor
set_option linter.unusedSimpArgs false
set_option linter.unusedVariables false
set_option maxRecDepth 10000
open Go.RowKit
set_option maxHeartbeats 8000000 in
theorem refkeysignNo_c (s text : List UInt8) (h n : Int) (hbad : badK s h n) : PC (envOf Tryd.prog) 30 [keyD s h n, strD text] (ksD (keyD [] 0 0) [] 2) := by
  unfold ksD
  have hX := and_true; refine PC_atX Tryd.func30 rfl Tryd.ntmps30 Tryd.results30 rfl (by simp only [argsL, Nat.reduceAdd, u32D, u8D, iD, bD, strD, u32_xor, u32_or, u32_and, u32_add, u32_not, u32_shr, u32_shl, u8_u32, u32_u8]; exact rfl) ?_; intro w0 A
  have hX := And.intro keyD_eq (and_true)
  have hK := And.intro (refcheckNo_c s h n hbad) trivial; (repeat refine DX_seq ?_); refine rgx [1, 2, 4] ?_
  (repeat refine DX_seq ?_); refine rgx [1, 2, 4, 14] ?_
  (repeat refine DX_seq ?_); refine iftx ?_
  (repeat refine DX_seq ?_); refine rgx [4, 5, 6] ?_
  (repeat refine DX_seq ?_); refine DX_ret ?_; refine retx ?_; (try dsimp only [outV, unlist])
  exact Fin_pure rfl
set_option maxHeartbeats 8000000 in
theorem refkeysignOver_c (s text : List UInt8) (m : Nat) (h1 : s.length ≠ 0) (h2 : s.length ≤ 64) (hm : m ≤ 7) : PC (envOf Tryd.prog) 30 [keyD s (m : Int) ((2 ^ m : Nat) : Int), strD text] (ksD (keyD s (m : Int) ((2 ^ m : Nat) : Int)) [] 10) := by
  have ck := refcheckOk_c s m (2 ^ m) h1 h2 hm (Nat.le_refl _)
  have cp := places_c m hm
  have d1 : decide (((2 ^ m : Nat) : Int) = ((2 ^ m : Nat) : Int)) = true := decide_eq_true rfl
  unfold ksD
  generalize 2 ^ m = N at *
  have hX := and_true; refine PC_atX Tryd.func30 rfl Tryd.ntmps30 Tryd.results30 rfl (by simp only [argsL, Nat.reduceAdd, u32D, u8D, iD, bD, strD, u32_xor, u32_or, u32_and, u32_add, u32_not, u32_shr, u32_shl, u8_u32, u32_u8]; exact rfl) ?_; intro w0 A
  have hX := And.intro keyD_eq (d1)
  have hK := And.intro (ck) (And.intro (cp) trivial); (repeat refine DX_seq ?_); refine rgx [1, 2, 4] ?_
  (repeat refine DX_seq ?_); refine rgx [1, 2, 4, 14] ?_
  (repeat refine DX_seq ?_); refine iffx ?_
  (repeat refine DX_seq ?_); refine DX_skip ?_
  (repeat refine DX_seq ?_); refine rqgx [1, 2, 4, 21] ?_
  (repeat refine DX_seq ?_); refine iftx ?_
  (repeat refine DX_seq ?_); refine rgx [4, 5, 6] ?_
  (repeat refine DX_seq ?_); refine DX_ret ?_; refine retx ?_; (try dsimp only [outV, unlist])
  exact Fin_pure rfl
theorem refpath_pc (l : List (List UInt8)) (k i : Nat) (hl : l.length = 2 ^ k) (hk : k ≤ 7) (h32 : ∀ x ∈ l, x.length = 32) (hi : i < 2 ^ k) : PC (envOf Tryd.prog) 17 [hsD l, iD (i : Int)] (psD (pathP k l i) 0) := by
  have h := refpathOk_c k l i hl hk h32 hi
  rw [← path_eq k l i hl hi] at h
  have hp := pathP_len k l i
  refine PC_ofN h ?_
  unfold ppD psD
  refine Fin_tup (.cons rfl rfl (Fin_elems rfl (by simp only [elems, List.getElem?_cons_zero]; exact rfl) (by simp [hp]) ?_ (fun _ => rfl)) (.cons rfl rfl (Fin_pure rfl) .nil))
  rw [List.take_of_length_le (by simp [hp])]
set_option maxHeartbeats 8000000 in
theorem refkeysignOk_c (s text : List UInt8) (m n : Nat) (h1 : s.length ≠ 0) (h2 : s.length ≤ 64) (hm : m ≤ 7) (hn : n < 2 ^ m) (ht : text.length ≤ 1000000) : PC (envOf Tryd.prog) 30 [keyD s (m : Int) (n : Int), strD text] (ksD (keyD s (m : Int) ((n : Int) + 1)) (sigK s m n text) 0) := by
  have hh : ∀ h, hashD h = .arr .u8 32 (fun i => ((h.getD i 0).toNat : Int)) := fun _ => rfl
  have hp := two_pow_big hm
  have ck := refcheckOk_c s m n h1 h2 hm (by omega)
  have cpl := places_c m hm
  have cl := refleaves_c s m (n : Int) (by omega) hm
  have hll := leavesS_len s (2 ^ m)
  have d1 : decide ((n : Int) = ((2 ^ m : Nat) : Int)) = false := decide_eq_false (by omega)
  have cp := refpath_pc (leavesS s (2 ^ m)) m n hll hm (leavesS_all s _) hn
  have hpl := pathP_len m (leavesS s (2 ^ m)) n
  have hpa := pathP_all m (leavesS s (2 ^ m)) n hll hn (leavesS_all s _)
  have cs := refsign_c (seedS s n) text (by rw [seedS_len]; omega) ht
  have hsl := signS_len' (seedS s n) text
  have e1 : (n : Int) % 256 = (n : Int) := by omega
  have e2 : ([byteOf (D.v (Value.int IntKind.u8 (n : Int)))] : List UInt8) = [UInt8.ofNat n] := by simp [byteOf]
  unfold ksD sigK
  unfold psD at cp
  generalize pathP m (leavesS s (2 ^ m)) n = p at *
  generalize signS (seedS s n) text = sg at *
  generalize leavesS s (2 ^ m) = lv at *
  have hX := and_true; refine PC_atX Tryd.func30 rfl Tryd.ntmps30 Tryd.results30 rfl (by simp only [argsL, Nat.reduceAdd, u32D, u8D, iD, bD, strD, u32_xor, u32_or, u32_and, u32_add, u32_not, u32_shr, u32_shl, u8_u32, u32_u8]; exact rfl) ?_; intro w0 A
  have hX := And.intro keyD_eq (And.intro hsD_eq (And.intro hh (And.intro d1 (And.intro e1 (And.intro e2 (hsl))))))
  have hK := And.intro (ck) (And.intro (cpl) (And.intro (cl) (And.intro (cp) (And.intro (refseed_c s (m : Int) (n : Int) n (by omega) (by omega)) (And.intro (cs) trivial))))); (repeat refine DX_seq ?_); refine rgx [1, 2, 4] ?_
  (repeat refine DX_seq ?_); refine rgx [1, 2, 4, 14] ?_
  (repeat refine DX_seq ?_); refine iffx ?_
  (repeat refine DX_seq ?_); refine DX_skip ?_
  (repeat refine DX_seq ?_); refine rqgx [1, 2, 4, 21] ?_
  (repeat refine DX_seq ?_); refine iffx ?_
  (repeat refine DX_seq ?_); refine DX_skip ?_
  (repeat refine DX_seq ?_); refine rqx [2, 4, 7] ?_
  (repeat refine DX_seq ?_); refine rqx [2, 4, 7, 8] ?_
  (repeat refine DX_seq ?_); refine rgx [2, 4, 7, 43, 44, 45] ?_
  (repeat refine DX_seq ?_); refine DX_block ?_
  (repeat refine DX_seq ?_); refine DX_loop (fun j _ st => ∃ k, k + j = p.length ∧ st = mk [(2, .ptr 0 0), (4, .ptr 1 0), (7, strD (UInt8.ofNat n :: (sg ++ (p.take k).flatten))), (43, hsD p), (44, iD (p.length : Int)), (45, iD (k : Int))] [some (.one (keyD s (m : Int) (n : Int))), some (.one (keyD [] 0 0))]) p.length ⟨_, WeakX.refl _, 0, by omega, ?_⟩ ?_
  · simp [iD, hsD_eq, keyD_eq, strD, evD, look]
  rintro j _ _ ⟨k, hk, rfl⟩
  have hX := And.intro hsD_eq (And.intro hh (keyD_eq))
  (repeat refine DX_seq ?_); refine rgx [2, 4, 7, 43, 44, 45, 46] ?_
  (repeat refine DX_seq ?_); refine ifx ?_ ?_
  · intro hc; (try simp only [hcs, ne_eq] at hc)
    have hkn : k < p.length := by omega
    have hft := flat_take hkn
    have hfl := flat_len (p.take k) (fun x hx => hpa x (List.mem_of_mem_take hx))
    rw [List.length_take, Nat.min_eq_left (by omega)] at hfl
    have hxl := getD_all hpa hkn
    generalize hxx : p.getD k [] = x at *
    have hbx := bytes32 hxl
    (repeat refine DX_seq ?_); refine DX_skip ?_
    (repeat refine DX_seq ?_); refine DX_block ?_
    have hX := And.intro hsD_eq (And.intro hh (And.intro hxx (And.intro hbx (And.intro hxl (And.intro hfl (And.intro hsl (keyD_eq)))))))
    (repeat refine DX_seq ?_); refine rgx [2, 4, 7, 11, 43, 44, 45] ?_
    (repeat refine DX_seq ?_); refine rgx [2, 4, 7, 43, 44, 45] ?_
    (repeat refine DX_seq ?_); refine rgx [2, 4, 7, 43, 44, 45] ?_
    refine ⟨_, j - 1, WeakX.take 2 rfl rfl rfl, by omega, k + 1, by omega, ?_⟩
    rw [hft]
    simp [iD, hsD_eq, keyD_eq, strD]
  · intro hc; (try simp only [hcs, ne_eq] at hc)
    obtain rfl : k = p.length := by omega
    (repeat refine DX_seq ?_); refine DX_exit ?_
    rw [List.take_length]
    have hX := And.intro keyD_eq (and_true)
    (repeat refine DX_seq ?_); refine rgx [2, 4, 7] ?_
    (repeat refine DX_seq ?_); refine rgx [4, 5, 6] ?_
    (repeat refine DX_seq ?_); refine DX_ret ?_; refine retx ?_; (try dsimp only [outV, unlist])
    exact Fin_pure rfl
/-! ### the document's ring -/
def rrD (s : List UInt8) (m n : Int) (l : List (List UInt8)) : D := .cons (keyD s m n) (.cons (hsD l) .nil)
theorem rrD_eq (s : List UInt8) (h n : Int) (l : List (List UInt8)) : rrD s h n l = .cons (.cons (.v (.string (B s))) (.cons (.v (.int .i64 h)) (.cons (.v (.int .i64 n)) .nil))) (.cons (.sl l ([] : List UInt8) hashD) .nil) := rfl
theorem refmake_c (s : List UInt8) (m : Nat) (n : Int) (hs : s.length ≤ 1000000) (hm : m ≤ 7) : PC (envOf Tryd.prog) 38 [keyD s (m : Int) n] (rrD s (m : Int) n (leavesS s (2 ^ m))) := by
  have cl := refleaves_c s m n hs hm
  generalize leavesS s (2 ^ m) = lv at *
  have hX := and_true; refine PC_atX Tryd.func38 rfl Tryd.ntmps38 Tryd.results38 rfl (by simp only [argsL, Nat.reduceAdd, u32D, u8D, iD, bD, strD, u32_xor, u32_or, u32_and, u32_add, u32_not, u32_shr, u32_shl, u8_u32, u32_u8]; exact rfl) ?_; intro w0 A
  have hX := And.intro keyD_eq (hsD_eq)
  have hK := And.intro (cl) trivial; (repeat refine DX_seq ?_); refine rgx [1, 2] ?_
  (repeat refine DX_seq ?_); refine rtx 4 [2] ?_
  (repeat refine DX_seq ?_); refine DX_ret ?_; refine retx ?_; (try dsimp only [outV, unlist])
  exact Fin_pure rfl
theorem refringroot_c (s : List UInt8) (m : Nat) (n : Int) (hm : m ≤ 7) : PC (envOf Tryd.prog) 40 [rrD s (m : Int) n (leavesS s (2 ^ m))] (hashD (rootK s m)) := by
  have hh : ∀ h, hashD h = .arr .u8 32 (fun i => ((h.getD i 0).toNat : Int)) := fun _ => rfl
  have hll := leavesS_len s (2 ^ m)
  have cr := refrootOk_c m (leavesS s (2 ^ m)) hll hm (leavesS_all s _)
  rw [← root_eq m _ hll, show rootP m (leavesS s (2 ^ m)) = rootK s m from rfl] at cr
  unfold heD at cr
  generalize rootK s m = rt at *
  generalize leavesS s (2 ^ m) = lv at *
  have hX := and_true; refine PC_atX Tryd.func40 rfl Tryd.ntmps40 Tryd.results40 rfl (by simp only [argsL, Nat.reduceAdd, u32D, u8D, iD, bD, strD, u32_xor, u32_or, u32_and, u32_add, u32_not, u32_shr, u32_shl, u8_u32, u32_u8]; exact rfl) ?_; intro w0 A
  have hX := And.intro rrD_eq (And.intro hsD_eq (hh))
  have hK := And.intro (cr) trivial; (repeat refine DX_seq ?_); refine rgx [1, 2] ?_
  (repeat refine DX_seq ?_); refine rgx [2, 3] ?_
  (repeat refine DX_seq ?_); refine rgx [2] ?_
  (repeat refine DX_seq ?_); refine DX_ret ?_; refine retx ?_; (try dsimp only [outV, unlist])
  exact Fin_pure rfl
end Go.Proofs.YtedioenakmgdiaaDoor
