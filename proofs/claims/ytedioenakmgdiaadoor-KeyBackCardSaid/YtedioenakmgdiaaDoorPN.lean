/- What a key signs is verified by its root, walked. -/
import Derived.Test.YtedioenakmgdiaaDoorPD
import Derived.Test.YtedioenakmgdiaaDoorPX
import Derived.Test.YtedioenakmgdiaaDoorPW
import Derived.Test.YtedioenakmgdiaaDoorPM
namespace Go.Proofs.YtedioenakmgdiaaDoor
set_option linter.unusedSimpArgs false
set_option linter.unusedVariables false
set_option maxRecDepth 10000
open Go.RowKit
set_option maxHeartbeats 16000000 in
theorem keyBackNo_w (lv : PC (envOf Tryd.prog) 26 [] (bD true)) (s : List UInt8) (h n : Int) (ts : List (List UInt8)) (hb : badK s h n) : PC (envOf Tryd.prog) 9 [keyD s h n, txsD ts] (bD true) := by
  have hh : ∀ h, hashD h = .arr .u8 32 (fun i => ((h.getD i 0).toNat : Int)) := fun _ => rfl
  have c1 : PC (envOf Tryd.prog) 27 [keyD s h n] (heD [] 2) := keyrootNo_c s h n hb
  unfold heD at c1
  by_cases hA : 4 < h
  · have d2 : decide ((4 : Int) < h) = true := decide_eq_true hA
    by_cases hB : h ≤ 7
    · have d3 : decide (h ≤ (7 : Int)) = true := decide_eq_true hB
      have hX := and_true; refine PC_atX Tryd.func9 rfl Tryd.ntmps9 Tryd.results9 rfl (by simp only [argsL, Nat.reduceAdd, u32D, u8D, iD, bD, strD, u32_xor, u32_or, u32_and, u32_add, u32_not, u32_shr, u32_shl, u8_u32, u32_u8]; exact rfl) ?_; intro w0 A
      have hX := And.intro keyD_eq (And.intro hh (And.intro txsD_eq (And.intro d2 (d3))))
      have hK := And.intro (lv) (And.intro (c1) trivial); (repeat refine DX_seq ?_); refine rgx [1, 2] ?_
      (repeat refine DX_seq ?_); refine rgx [1, 2, 15] ?_
      (repeat refine DX_seq ?_); refine iffx ?_
      (repeat refine DX_seq ?_); refine DX_skip ?_
      (repeat refine DX_seq ?_); refine rgx [1, 2, 5, 6] ?_
      (repeat refine DX_seq ?_); refine rggx [1, 2, 5, 6, 32] ?_
      (repeat refine DX_seq ?_); refine iftx ?_
      (repeat refine DX_seq ?_); refine rggx [4] ?_
      (repeat refine DX_seq ?_); refine DX_ret ?_; refine retx ?_; (try dsimp only [outV, unlist])
      exact Fin_pure rfl
    · have d3 : decide (h ≤ (7 : Int)) = false := decide_eq_false hB
      have hX := and_true; refine PC_atX Tryd.func9 rfl Tryd.ntmps9 Tryd.results9 rfl (by simp only [argsL, Nat.reduceAdd, u32D, u8D, iD, bD, strD, u32_xor, u32_or, u32_and, u32_add, u32_not, u32_shr, u32_shl, u8_u32, u32_u8]; exact rfl) ?_; intro w0 A
      have hX := And.intro keyD_eq (And.intro hh (And.intro txsD_eq (And.intro d2 (d3))))
      have hK := And.intro (lv) (And.intro (c1) trivial); (repeat refine DX_seq ?_); refine rgx [1, 2] ?_
      (repeat refine DX_seq ?_); refine rgx [1, 2, 15] ?_
      (repeat refine DX_seq ?_); refine iffx ?_
      (repeat refine DX_seq ?_); refine DX_skip ?_
      (repeat refine DX_seq ?_); refine rgx [1, 2, 5, 6] ?_
      (repeat refine DX_seq ?_); refine rggx [1, 2, 5, 6, 32] ?_
      (repeat refine DX_seq ?_); refine iftx ?_
      (repeat refine DX_seq ?_); refine rggx [4] ?_
      (repeat refine DX_seq ?_); refine DX_ret ?_; refine retx ?_; (try dsimp only [outV, unlist])
      exact Fin_pure rfl
  · have d2 : decide ((4 : Int) < h) = false := decide_eq_false hA
    have hX := and_true; refine PC_atX Tryd.func9 rfl Tryd.ntmps9 Tryd.results9 rfl (by simp only [argsL, Nat.reduceAdd, u32D, u8D, iD, bD, strD, u32_xor, u32_or, u32_and, u32_add, u32_not, u32_shr, u32_shl, u8_u32, u32_u8]; exact rfl) ?_; intro w0 A
    have hX := And.intro keyD_eq (And.intro hh (And.intro txsD_eq (d2)))
    have hK := And.intro (lv) (And.intro (c1) trivial); (repeat refine DX_seq ?_); refine rgx [1, 2] ?_
    (repeat refine DX_seq ?_); refine rgx [1, 2, 15] ?_
    (repeat refine DX_seq ?_); refine iffx ?_
    (repeat refine DX_seq ?_); refine DX_skip ?_
    (repeat refine DX_seq ?_); refine rgx [1, 2, 5, 6] ?_
    (repeat refine DX_seq ?_); refine rggx [1, 2, 5, 6, 32] ?_
    (repeat refine DX_seq ?_); refine iftx ?_
    (repeat refine DX_seq ?_); refine rggx [4] ?_
    (repeat refine DX_seq ?_); refine DX_ret ?_; refine retx ?_; (try dsimp only [outV, unlist])
    exact Fin_pure rfl
set_option maxHeartbeats 16000000 in
theorem keyBackOk_w (lv : PC (envOf Tryd.prog) 26 [] (bD true)) (s : List UInt8) (m n : Nat) (ts : List (List UInt8)) (h1 : s.length ≠ 0) (h2 : s.length ≤ 64) (hm : m ≤ 7) (hn : n ≤ 2 ^ m) : PC (envOf Tryd.prog) 9 [keyD s (m : Int) (n : Int), txsD ts] (bD true) := by
  have hh : ∀ h, hashD h = .arr .u8 32 (fun i => ((h.getD i 0).toNat : Int)) := fun _ => rfl
  have c1 := keyrootOk_c s m n h1 h2 hm hn
  have e1 := shl_h m
  have hp := two_pow_big hm
  have hS : ∀ (c : Nat) (t : List UInt8), c < 2 ^ m → t.length ≤ 16384 → ∃ sig, PC (envOf Tryd.prog) 29 [keyD s (m : Int) (c : Int), strD t] (ksD (keyD s (m : Int) ((c : Int) + 1)) sig 0) ∧ PC (envOf Tryd.prog) 33 [iD (m : Int), strD sig] (plD c) ∧ PC (envOf Tryd.prog) 35 [hashD (rootK s m), iD (m : Int), strD t, strD sig] (iD 0) := fun c t hc ht => by
    have hsl := sigK_len s t m c hc
    have hof := ofNat_b (show c < 256 by omega)
    have hat : ((sigK s m c t).getD 0 0).toNat = c := by rw [sigK_at, hof]
    have k2 := placeOk_c m _ hm hsl (by rw [hat]; exact hc)
    have k3 := verifyOk_c (rootK s m) t _ m (rootK_len _ _) hm hsl (by rw [hat]; exact hc) (by omega)
    rw [hat] at k2
    rw [verS_yes s t m c hm hc] at k3
    exact ⟨_, keysignOk_c s t m c h1 h2 hm hc (by omega), k2, k3⟩
  have hO : ∀ t : List UInt8, PC (envOf Tryd.prog) 29 [keyD s (m : Int) ((2 ^ m : Nat) : Int), strD t] (ksD (keyD s (m : Int) ((2 ^ m : Nat) : Int)) [] 10) := fun t => keysignOver_c s t m h1 h2 hm
  unfold heD at c1
  unfold ksD at hS hO
  unfold plD at hS
  generalize rootK s m = root at *
  generalize 2 ^ m = N at *
  by_cases hA : 4 < m
  · have d2 : decide ((4 : Int) < (m : Int)) = true := decide_eq_true (by omega)
    have d3 : decide ((m : Int) ≤ (7 : Int)) = true := decide_eq_true (by omega)
    have hX := and_true; refine PC_atX Tryd.func9 rfl Tryd.ntmps9 Tryd.results9 rfl (by simp only [argsL, Nat.reduceAdd, u32D, u8D, iD, bD, strD, u32_xor, u32_or, u32_and, u32_add, u32_not, u32_shr, u32_shl, u8_u32, u32_u8]; exact rfl) ?_; intro w0 A
    have hX := And.intro keyD_eq (And.intro hh (And.intro txsD_eq (And.intro d2 (d3))))
    have hK := And.intro (lv) (And.intro (c1) trivial); (repeat refine DX_seq ?_); refine rgx [1, 2] ?_
    (repeat refine DX_seq ?_); refine rgx [1, 2, 15] ?_
    (repeat refine DX_seq ?_); refine iffx ?_
    (repeat refine DX_seq ?_); refine DX_skip ?_
    (repeat refine DX_seq ?_); refine rgx [1, 2, 5, 6] ?_
    (repeat refine DX_seq ?_); refine rggx [1, 2, 5, 6, 32] ?_
    (repeat refine DX_seq ?_); refine iftx ?_
    (repeat refine DX_seq ?_); refine rggx [4] ?_
    (repeat refine DX_seq ?_); refine DX_ret ?_; refine retx ?_; (try dsimp only [outV, unlist])
    exact Fin_pure rfl
  have d2 : decide ((4 : Int) < (m : Int)) = false := decide_eq_false (by omega)
  by_cases hB : 40 < ts.length
  · have d3 : decide ((40 : Int) < (ts.length : Int)) = true := decide_eq_true (by omega)
    have hX := and_true; refine PC_atX Tryd.func9 rfl Tryd.ntmps9 Tryd.results9 rfl (by simp only [argsL, Nat.reduceAdd, u32D, u8D, iD, bD, strD, u32_xor, u32_or, u32_and, u32_add, u32_not, u32_shr, u32_shl, u8_u32, u32_u8]; exact rfl) ?_; intro w0 A
    have hX := And.intro keyD_eq (And.intro hh (And.intro txsD_eq (And.intro d2 (d3))))
    have hK := And.intro (lv) (And.intro (c1) trivial); (repeat refine DX_seq ?_); refine rgx [1, 2] ?_
    (repeat refine DX_seq ?_); refine rgx [1, 2, 15] ?_
    (repeat refine DX_seq ?_); refine iffx ?_
    (repeat refine DX_seq ?_); refine DX_skip ?_
    (repeat refine DX_seq ?_); refine rgx [1, 2, 5, 6] ?_
    (repeat refine DX_seq ?_); refine rggx [1, 2, 5, 6, 32] ?_
    (repeat refine DX_seq ?_); refine iftx ?_
    (repeat refine DX_seq ?_); refine rggx [4] ?_
    (repeat refine DX_seq ?_); refine DX_ret ?_; refine retx ?_; (try dsimp only [outV, unlist])
    exact Fin_pure rfl
  have d3 : decide ((40 : Int) < (ts.length : Int)) = false := decide_eq_false (by omega)
  have hX := and_true; refine PC_atX Tryd.func9 rfl Tryd.ntmps9 Tryd.results9 rfl (by simp only [argsL, Nat.reduceAdd, u32D, u8D, iD, bD, strD, u32_xor, u32_or, u32_and, u32_add, u32_not, u32_shr, u32_shl, u8_u32, u32_u8]; exact rfl) ?_; intro w0 A
  have hX := And.intro keyD_eq (And.intro hh (And.intro txsD_eq (And.intro d2 (d3))))
  have hK := And.intro (lv) (And.intro (c1) trivial); (repeat refine DX_seq ?_); refine rgx [1, 2] ?_
  (repeat refine DX_seq ?_); refine rgx [1, 2, 15] ?_
  (repeat refine DX_seq ?_); refine iffx ?_
  (repeat refine DX_seq ?_); refine DX_skip ?_
  (repeat refine DX_seq ?_); refine rgx [1, 2, 5, 6] ?_
  (repeat refine DX_seq ?_); refine rggx [1, 2, 5, 6, 32] ?_
  (repeat refine DX_seq ?_); refine iffx ?_
  (repeat refine DX_seq ?_); refine DX_skip ?_
  (repeat refine DX_seq ?_); refine rgx [2, 5, 50, 51, 52] ?_
  (repeat refine DX_seq ?_); refine DX_block ?_
  (repeat refine DX_seq ?_); refine DX_loop (fun j _ st => ∃ i c, i + j = ts.length ∧ c ≤ N ∧ st = mk [(2, .ptr 0 0), (5, .ptr 1 0), (50, txsD ts), (51, iD (ts.length : Int)), (52, iD (i : Int))] [some (.one (keyD s (m : Int) (c : Int))), some (.one (hashD root))]) ts.length ⟨_, WeakX.refl _, 0, n, by omega, hn, ?_⟩ ?_
  · simp [iD, keyD_eq, hh, txsD_eq, evD, look]
  rintro j _ _ ⟨i, c, hi, hc0, rfl⟩
  have hX := And.intro keyD_eq (And.intro hh (txsD_eq))
  (repeat refine DX_seq ?_); refine rgx [2, 5, 50, 51, 52, 53] ?_
  (repeat refine DX_seq ?_); refine ifx ?_ ?_
  · intro hc; (try simp only [hcs, ne_eq] at hc)
    have hin : i < ts.length := by omega
    generalize hxx : ts.getD i [] = t at *
    (repeat refine DX_seq ?_); refine DX_skip ?_
    (repeat refine DX_seq ?_); refine DX_block ?_
    have hX := And.intro keyD_eq (And.intro hh (And.intro txsD_eq (And.intro txD_eq (hxx))))
    (repeat refine DX_seq ?_); refine rgx [2, 5, 8, 50, 51, 52] ?_
    (repeat refine DX_seq ?_); refine rgx [2, 5, 8, 50, 51, 52, 58] ?_
    (repeat refine DX_seq ?_); refine ifx ?_ ?_
    · intro hc2; (try simp only [hcs, ne_eq] at hc2)
      (repeat refine DX_seq ?_); refine rgx [4] ?_
      (repeat refine DX_seq ?_); refine DX_ret ?_; refine retx ?_; (try dsimp only [outV, unlist])
      exact Fin_pure rfl
    · intro hc2; (try simp only [hcs, ne_eq] at hc2)
      (repeat refine DX_seq ?_); refine DX_skip ?_
      have htl : t.length ≤ 16384 := by omega
      rcases Nat.lt_or_ge c N with hcN | hcN
      · obtain ⟨sig, k1, k2, k3⟩ := hS c t hcN htl
        have d4 : decide ((c : Int) = (N : Int)) = false := decide_eq_false (by omega)
        have hX := And.intro keyD_eq (And.intro hh (And.intro txsD_eq (And.intro e1 (And.intro d4 (And.intro dec_i (dec_b))))))
        have hK := And.intro (k1) (And.intro (k2) (And.intro (k3) trivial)); (repeat refine DX_seq ?_); refine rgx [2, 5, 8, 9, 10, 11, 50, 51, 52] ?_
        (repeat refine DX_seq ?_); refine rqx [2, 5, 8, 9, 10, 11, 50, 51, 52, 71] ?_
        (repeat refine DX_seq ?_); refine iffx ?_
        (repeat refine DX_seq ?_); refine DX_skip ?_
        (repeat refine DX_seq ?_); refine rgx [2, 5, 8, 9, 10, 11, 12, 13, 50, 51, 52] ?_
        (repeat refine DX_seq ?_); refine rggx [2, 5, 9, 50, 51, 52, 132] ?_
        (repeat refine DX_seq ?_); refine iffx ?_
        (repeat refine DX_seq ?_); refine DX_skip ?_
        (repeat refine DX_seq ?_); refine rgx [2, 5, 50, 51, 52] ?_
        (repeat refine DX_seq ?_); refine rgx [2, 5, 50, 51, 52] ?_
        refine ⟨_, j - 1, WeakX.take 2 rfl rfl rfl, by omega, i + 1, c + 1, by omega, by omega, ?_⟩
        simp [iD, keyD_eq, hh, txsD_eq]
      · obtain rfl : c = N := by omega
        have k1 := hO t
        have d4 : decide ((c : Int) = (c : Int)) = true := decide_eq_true rfl
        have hX := And.intro keyD_eq (And.intro hh (And.intro txsD_eq (And.intro e1 (And.intro d4 (And.intro dec_i (dec_b))))))
        have hK := And.intro (k1) trivial; (repeat refine DX_seq ?_); refine rgx [2, 5, 8, 9, 10, 11, 50, 51, 52] ?_
        (repeat refine DX_seq ?_); refine rqx [2, 5, 8, 9, 10, 11, 50, 51, 52, 71] ?_
        (repeat refine DX_seq ?_); refine iftx ?_
        (repeat refine DX_seq ?_); refine DX_reg [4] ?_; intro w0 A S0 f0; (repeat (first | (refine gtx rfl rfl ?_) | (refine gx ?_) | ((with_reducible show DR _ _ _ (_ :: _) _); first | (refine cx _ (envG _ _ _ _ _ _) rfl rfl rfl rfl rfl ?_ (hc := by first | exact k1)) | (refine eqsx 3 _ rfl rfl rfl rfl (.inl rfl) (by kernel_rfl) (by kernel_rfl) rfl ?_) | (refine sx ?_)))); refine DR_nil ?_; refine kl1 ?_
        (repeat refine DX_seq ?_); refine DX_ret ?_; refine retx ?_; (try dsimp only [outV, unlist])
        exact Fin_pure rfl
  · intro hc; (try simp only [hcs, ne_eq] at hc)
    (repeat refine DX_seq ?_); refine DX_exit ?_
    (repeat refine DX_seq ?_); refine rgx [4] ?_
    (repeat refine DX_seq ?_); refine DX_ret ?_; refine retx ?_; (try dsimp only [outV, unlist])
    exact Fin_pure rfl
theorem keyBack_c (s : List UInt8) (h n : Int) (ts : List (List UInt8)) : PC (envOf Tryd.prog) 9 [keyD s h n, txsD ts] (bD true) := by
  by_cases hb : badK s h n
  · exact keyBackNo_w lives05_c s h n ts hb
  · obtain ⟨m, k, rfl, rfl, h1, h2, hm, hk⟩ := goodK hb
    exact keyBackOk_w lives05_c s m k ts h1 h2 hm hk
end Go.Proofs.YtedioenakmgdiaaDoor
