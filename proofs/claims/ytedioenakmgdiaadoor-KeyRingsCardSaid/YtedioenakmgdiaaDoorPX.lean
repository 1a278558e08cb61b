/- Laws of keys, walked: signing, verifying. -/
import Derived.Test.YtedioenakmgdiaaDoorPD
import Derived.Test.YtedioenakmgdiaaDoorPS
import Derived.Test.YtedioenakmgdiaaDoorPR
namespace Go.Proofs.YtedioenakmgdiaaDoor
set_option linter.unusedSimpArgs false
set_option linter.unusedVariables false
set_option maxRecDepth 10000
open Go.RowKit
theorem dec_b (l : List UInt8) : decide (l = l) = true := by simp
theorem goodK {s : List UInt8} {h n : Int} (hb : ¬ badK s h n) : ∃ m k : Nat, h = (m : Int) ∧ n = (k : Int) ∧ s.length ≠ 0 ∧ s.length ≤ 64 ∧ m ≤ 7 ∧ k ≤ 2 ^ m := by
  unfold badK at hb
  simp only [not_or] at hb
  obtain ⟨b1, b2, b3, b4, b5, b6⟩ := hb
  refine ⟨h.toNat, n.toNat, by omega, by omega, b1, by omega, by omega, ?_⟩
  generalize 2 ^ h.toNat = N at *
  omega
theorem goodP {n : Int} {sig : List UInt8} (hb : ¬ badP n sig) : ∃ m : Nat, n = (m : Int) ∧ m ≤ 7 ∧ sig.length = 1089 + 32 * m ∧ (sig.getD 0 0).toNat < 2 ^ m := by
  unfold badP at hb
  simp only [not_or] at hb
  obtain ⟨b1, b2, b3, b4⟩ := hb
  exact ⟨n.toNat, by omega, by omega, by omega, by omega⟩
theorem keyroot_ex (s : List UInt8) (h n : Int) : ∃ (a : List UInt8) (e : Int), PC (envOf Tryd.prog) 27 [keyD s h n] (heD a e) ∧ PC (envOf Tryd.prog) 28 [keyD s h n] (heD a e) := by
  by_cases hb : badK s h n
  · exact ⟨[], 2, keyrootNo_c s h n hb, refkeyrootNo_c s h n hb⟩
  · obtain ⟨m, k, rfl, rfl, h1, h2, hm, hk⟩ := goodK hb
    exact ⟨rootK s m, 0, keyrootOk_c s m k h1 h2 hm hk, refkeyrootOk_c s m k h1 h2 hm hk⟩
theorem check_ex (s : List UInt8) (h n : Int) : ∃ e : Int, PC (envOf Tryd.prog) 31 [keyD s h n] (iD e) ∧ PC (envOf Tryd.prog) 32 [keyD s h n] (iD e) := by
  by_cases hb : badK s h n
  · exact ⟨2, checkNo_c s h n hb, refcheckNo_c s h n hb⟩
  · obtain ⟨m, k, rfl, rfl, h1, h2, hm, hk⟩ := goodK hb
    exact ⟨0, checkOk_c s m k h1 h2 hm hk, refcheckOk_c s m k h1 h2 hm hk⟩
theorem keysign_ex (s : List UInt8) (h n : Int) (text : List UInt8) (ht : text.length ≤ 1000000) : ∃ (s' : List UInt8) (h' n' : Int) (sig : List UInt8) (e : Int), PC (envOf Tryd.prog) 29 [keyD s h n, strD text] (ksD (keyD s' h' n') sig e) ∧ PC (envOf Tryd.prog) 30 [keyD s h n, strD text] (ksD (keyD s' h' n') sig e) := by
  by_cases hb : badK s h n
  · exact ⟨[], 0, 0, [], 2, keysignNo_c s text h n hb, refkeysignNo_c s text h n hb⟩
  · obtain ⟨m, k, rfl, rfl, h1, h2, hm, hk⟩ := goodK hb
    rcases Nat.lt_or_ge k (2 ^ m) with hlt | hge
    · exact ⟨s, m, k + 1, sigK s m k text, 0, keysignOk_c s text m k h1 h2 hm hlt ht, refkeysignOk_c s text m k h1 h2 hm hlt ht⟩
    · obtain rfl : k = 2 ^ m := by omega
      exact ⟨s, m, ((2 ^ m : Nat) : Int), [], 10, keysignOver_c s text m h1 h2 hm, refkeysignOver_c s text m h1 h2 hm⟩
theorem place_ex (n : Int) (sig : List UInt8) : ∃ i e : Int, PC (envOf Tryd.prog) 33 [iD n, strD sig] (.tup (.cons (iD i) (.cons (iD e) .nil))) ∧ PC (envOf Tryd.prog) 34 [iD n, strD sig] (.tup (.cons (iD i) (.cons (iD e) .nil))) := by
  by_cases hb : badP n sig
  · exact ⟨0, 2, placeNo_c n sig hb, refplaceNo_c n sig hb⟩
  · obtain ⟨m, rfl, hm, hl, hi⟩ := goodP hb
    exact ⟨(sig.getD 0 0).toNat, 0, placeOk_c m sig hm hl hi, refplaceOk_c m sig hm hl hi⟩
theorem verify_ex (root text sig : List UInt8) (n : Int) (hr : root.length = 32) (ht : text.length ≤ 1000000) : ∃ e : Int, PC (envOf Tryd.prog) 35 [hashD root, iD n, strD text, strD sig] (iD e) ∧ PC (envOf Tryd.prog) 36 [hashD root, iD n, strD text, strD sig] (iD e) := by
  by_cases hb : badP n sig
  · exact ⟨2, verifyNo_c root text sig n hb, refverifyNo_c root text sig n hb⟩
  · obtain ⟨m, rfl, hm, hl, hi⟩ := goodP hb
    exact ⟨verS root text sig m, verifyOk_c root text sig m hr hm hl hi ht, refverifyOk_c root text sig m hr hm hl hi ht⟩
set_option maxHeartbeats 16000000 in
theorem keySigns_w (lv : PC (envOf Tryd.prog) 26 [] (bD true)) (s : List UInt8) (h n : Int) (text : List UInt8) : PC (envOf Tryd.prog) 7 [keyD s h n, strD text] (bD true) := by
  have hh : ∀ h, hashD h = .arr .u8 32 (fun i => ((h.getD i 0).toNat : Int)) := fun _ => rfl
  by_cases c1 : 16384 < text.length
  · have d1 : decide ((16384 : Int) < (text.length : Int)) = true := decide_eq_true (by omega)
    have hX := and_true; refine PC_atX Tryd.func7 rfl Tryd.ntmps7 Tryd.results7 rfl (by simp only [argsL, Nat.reduceAdd, u32D, u8D, iD, bD, strD, u32_xor, u32_or, u32_and, u32_add, u32_not, u32_shr, u32_shl, u8_u32, u32_u8]; exact rfl) ?_; intro w0 A
    have hX := And.intro keyD_eq (d1)
    have hK := And.intro (lv) trivial; (repeat refine DX_seq ?_); refine rgx [1, 2] ?_
    (repeat refine DX_seq ?_); refine rggx [1, 2, 27] ?_
    (repeat refine DX_seq ?_); refine iftx ?_
    (repeat refine DX_seq ?_); refine rgx [4] ?_
    (repeat refine DX_seq ?_); refine DX_ret ?_; refine retx ?_; (try dsimp only [outV, unlist])
    exact Fin_pure rfl
  have d1 : decide ((16384 : Int) < (text.length : Int)) = false := decide_eq_false (by omega)
  by_cases c2 : 4 < h ∧ h ≤ 7
  · have d2 : decide ((4 : Int) < h) = true := decide_eq_true c2.1
    have d3 : decide (h ≤ (7 : Int)) = true := decide_eq_true c2.2
    have hX := and_true; refine PC_atX Tryd.func7 rfl Tryd.ntmps7 Tryd.results7 rfl (by simp only [argsL, Nat.reduceAdd, u32D, u8D, iD, bD, strD, u32_xor, u32_or, u32_and, u32_add, u32_not, u32_shr, u32_shl, u8_u32, u32_u8]; exact rfl) ?_; intro w0 A
    have hX := And.intro keyD_eq (And.intro d1 (And.intro d2 (d3)))
    have hK := And.intro (lv) trivial; (repeat refine DX_seq ?_); refine rgx [1, 2] ?_
    (repeat refine DX_seq ?_); refine rggx [1, 2, 27] ?_
    (repeat refine DX_seq ?_); refine iftx ?_
    (repeat refine DX_seq ?_); refine rgx [4] ?_
    (repeat refine DX_seq ?_); refine DX_ret ?_; refine retx ?_; (try dsimp only [outV, unlist])
    exact Fin_pure rfl
  obtain ⟨a, e, k1, k2⟩ := keyroot_ex s h n
  obtain ⟨e', k3, k4⟩ := check_ex s h n
  obtain ⟨s', h', n', sig, e2, k5, k6⟩ := keysign_ex s h n text (by omega)
  unfold heD at k1 k2
  unfold ksD at k5 k6
  by_cases c3 : h ≤ 4
  · have d2 : decide ((4 : Int) < h) = false := decide_eq_false (by omega)
    have hX := and_true; refine PC_atX Tryd.func7 rfl Tryd.ntmps7 Tryd.results7 rfl (by simp only [argsL, Nat.reduceAdd, u32D, u8D, iD, bD, strD, u32_xor, u32_or, u32_and, u32_add, u32_not, u32_shr, u32_shl, u8_u32, u32_u8]; exact rfl) ?_; intro w0 A
    have hX := And.intro keyD_eq (And.intro hh (And.intro d1 (And.intro d2 (And.intro dec_i (And.intro dec_l (dec_b))))))
    (repeat refine DX_seq ?_); refine DX_reg [1, 2] ?_; intro w0 A S0 f0; (repeat ((with_reducible show DR _ _ _ (_ :: _) _); first | (refine cx _ (envG _ _ _ _ _ _) rfl rfl rfl rfl rfl ?_ (hc := by first | exact lv | exact k1 | exact k2 | exact k3 | exact k4 | exact k5 | exact k6)) | (refine eqsx 3 _ rfl rfl rfl rfl (.inl rfl) (by kernel_rfl) (by kernel_rfl) rfl ?_) | (refine sx ?_))); refine DR_nil ?_; refine kl1 ?_
    (repeat refine DX_seq ?_); refine DX_reg [1, 2, 27] ?_; intro w0 A S0 f0; (repeat (first | (refine gtx rfl rfl ?_) | (refine gx ?_) | ((with_reducible show DR _ _ _ (_ :: _) _); first | (refine cx _ (envG _ _ _ _ _ _) rfl rfl rfl rfl rfl ?_ (hc := by first | exact lv | exact k1 | exact k2 | exact k3 | exact k4 | exact k5 | exact k6)) | (refine eqsx 3 _ rfl rfl rfl rfl (.inl rfl) (by kernel_rfl) (by kernel_rfl) rfl ?_) | (refine sx ?_)))); refine DR_nil ?_; refine kl1 ?_
    (repeat refine DX_seq ?_); refine iffx ?_
    (repeat refine DX_seq ?_); refine DX_skip ?_
    (repeat refine DX_seq ?_); refine DX_reg [1, 2, 5, 6] ?_; intro w0 A S0 f0; (repeat ((with_reducible show DR _ _ _ (_ :: _) _); first | (refine cx _ (envG _ _ _ _ _ _) rfl rfl rfl rfl rfl ?_ (hc := by first | exact lv | exact k1 | exact k2 | exact k3 | exact k4 | exact k5 | exact k6)) | (refine eqsx 3 _ rfl rfl rfl rfl (.inl rfl) (by kernel_rfl) (by kernel_rfl) rfl ?_) | (refine sx ?_))); refine DR_nil ?_; refine kl1 ?_
    (repeat refine DX_seq ?_); refine DX_reg [1, 2, 5, 6, 7, 8] ?_; intro w0 A S0 f0; (repeat ((with_reducible show DR _ _ _ (_ :: _) _); first | (refine cx _ (envG _ _ _ _ _ _) rfl rfl rfl rfl rfl ?_ (hc := by first | exact lv | exact k1 | exact k2 | exact k3 | exact k4 | exact k5 | exact k6)) | (refine eqsx 3 _ rfl rfl rfl rfl (.inl rfl) (by kernel_rfl) (by kernel_rfl) rfl ?_) | (refine sx ?_))); refine DR_nil ?_; refine kl1 ?_
    (repeat refine DX_seq ?_); refine DX_reg [1, 2, 5, 6, 7, 8, 9, 10, 11] ?_; intro w0 A S0 f0; (repeat ((with_reducible show DR _ _ _ (_ :: _) _); first | (refine cx _ (envG _ _ _ _ _ _) rfl rfl rfl rfl rfl ?_ (hc := by first | exact lv | exact k1 | exact k2 | exact k3 | exact k4 | exact k5 | exact k6)) | (refine eqsx 3 _ rfl rfl rfl rfl (.inl rfl) (by kernel_rfl) (by kernel_rfl) rfl ?_) | (refine sx ?_))); refine DR_nil ?_; refine kl1 ?_
    (repeat refine DX_seq ?_); refine DX_reg [2, 5, 6, 7, 8, 9, 10, 11, 12, 13, 14] ?_; intro w0 A S0 f0; (repeat ((with_reducible show DR _ _ _ (_ :: _) _); first | (refine cx _ (envG _ _ _ _ _ _) rfl rfl rfl rfl rfl ?_ (hc := by first | exact lv | exact k1 | exact k2 | exact k3 | exact k4 | exact k5 | exact k6)) | (refine eqsx 3 _ rfl rfl rfl rfl (.inl rfl) (by kernel_rfl) (by kernel_rfl) rfl ?_) | (refine sx ?_))); refine DR_nil ?_; refine kl1 ?_
    (repeat refine DX_seq ?_); refine DX_drwq [4] (by kernel_rfl) ?_; intro w0 A S0 f0; (repeat (first | (refine gtxq rfl rfl ?_) | (refine gxq ?_) | ((with_reducible show DRq _ _ _ (_ :: _) _); first | (refine cxq _ (envG _ _ _ _ _ _) rfl rfl rfl rfl rfl ?_ (hc := by first | exact lv | exact k1 | exact k2 | exact k3 | exact k4 | exact k5 | exact k6)) | (refine sxq ?_)) | (refine eqsxq 3 _ rfl rfl rfl rfl (.inl rfl) (by kernel_rfl) (by kernel_rfl) rfl ?_))); refine DRq_nil ?_; refine kl1 ?_
    (repeat refine DX_seq ?_); refine DX_ret ?_; refine retx ?_; (try dsimp only [outV, unlist])
    exact Fin_pure rfl
  · have d2 : decide ((4 : Int) < h) = true := decide_eq_true (by omega)
    have d3 : decide (h ≤ (7 : Int)) = false := decide_eq_false (by omega)
    have hX := and_true; refine PC_atX Tryd.func7 rfl Tryd.ntmps7 Tryd.results7 rfl (by simp only [argsL, Nat.reduceAdd, u32D, u8D, iD, bD, strD, u32_xor, u32_or, u32_and, u32_add, u32_not, u32_shr, u32_shl, u8_u32, u32_u8]; exact rfl) ?_; intro w0 A
    have hX := And.intro keyD_eq (And.intro hh (And.intro d1 (And.intro d2 (And.intro d3 (And.intro dec_i (And.intro dec_l (dec_b)))))))
    (repeat refine DX_seq ?_); refine DX_reg [1, 2] ?_; intro w0 A S0 f0; (repeat ((with_reducible show DR _ _ _ (_ :: _) _); first | (refine cx _ (envG _ _ _ _ _ _) rfl rfl rfl rfl rfl ?_ (hc := by first | exact lv | exact k1 | exact k2 | exact k3 | exact k4 | exact k5 | exact k6)) | (refine eqsx 3 _ rfl rfl rfl rfl (.inl rfl) (by kernel_rfl) (by kernel_rfl) rfl ?_) | (refine sx ?_))); refine DR_nil ?_; refine kl1 ?_
    (repeat refine DX_seq ?_); refine DX_reg [1, 2, 27] ?_; intro w0 A S0 f0; (repeat (first | (refine gtx rfl rfl ?_) | (refine gx ?_) | ((with_reducible show DR _ _ _ (_ :: _) _); first | (refine cx _ (envG _ _ _ _ _ _) rfl rfl rfl rfl rfl ?_ (hc := by first | exact lv | exact k1 | exact k2 | exact k3 | exact k4 | exact k5 | exact k6)) | (refine eqsx 3 _ rfl rfl rfl rfl (.inl rfl) (by kernel_rfl) (by kernel_rfl) rfl ?_) | (refine sx ?_)))); refine DR_nil ?_; refine kl1 ?_
    (repeat refine DX_seq ?_); refine iffx ?_
    (repeat refine DX_seq ?_); refine DX_skip ?_
    (repeat refine DX_seq ?_); refine DX_reg [1, 2, 5, 6] ?_; intro w0 A S0 f0; (repeat ((with_reducible show DR _ _ _ (_ :: _) _); first | (refine cx _ (envG _ _ _ _ _ _) rfl rfl rfl rfl rfl ?_ (hc := by first | exact lv | exact k1 | exact k2 | exact k3 | exact k4 | exact k5 | exact k6)) | (refine eqsx 3 _ rfl rfl rfl rfl (.inl rfl) (by kernel_rfl) (by kernel_rfl) rfl ?_) | (refine sx ?_))); refine DR_nil ?_; refine kl1 ?_
    (repeat refine DX_seq ?_); refine DX_reg [1, 2, 5, 6, 7, 8] ?_; intro w0 A S0 f0; (repeat ((with_reducible show DR _ _ _ (_ :: _) _); first | (refine cx _ (envG _ _ _ _ _ _) rfl rfl rfl rfl rfl ?_ (hc := by first | exact lv | exact k1 | exact k2 | exact k3 | exact k4 | exact k5 | exact k6)) | (refine eqsx 3 _ rfl rfl rfl rfl (.inl rfl) (by kernel_rfl) (by kernel_rfl) rfl ?_) | (refine sx ?_))); refine DR_nil ?_; refine kl1 ?_
    (repeat refine DX_seq ?_); refine DX_reg [1, 2, 5, 6, 7, 8, 9, 10, 11] ?_; intro w0 A S0 f0; (repeat ((with_reducible show DR _ _ _ (_ :: _) _); first | (refine cx _ (envG _ _ _ _ _ _) rfl rfl rfl rfl rfl ?_ (hc := by first | exact lv | exact k1 | exact k2 | exact k3 | exact k4 | exact k5 | exact k6)) | (refine eqsx 3 _ rfl rfl rfl rfl (.inl rfl) (by kernel_rfl) (by kernel_rfl) rfl ?_) | (refine sx ?_))); refine DR_nil ?_; refine kl1 ?_
    (repeat refine DX_seq ?_); refine DX_reg [2, 5, 6, 7, 8, 9, 10, 11, 12, 13, 14] ?_; intro w0 A S0 f0; (repeat ((with_reducible show DR _ _ _ (_ :: _) _); first | (refine cx _ (envG _ _ _ _ _ _) rfl rfl rfl rfl rfl ?_ (hc := by first | exact lv | exact k1 | exact k2 | exact k3 | exact k4 | exact k5 | exact k6)) | (refine eqsx 3 _ rfl rfl rfl rfl (.inl rfl) (by kernel_rfl) (by kernel_rfl) rfl ?_) | (refine sx ?_))); refine DR_nil ?_; refine kl1 ?_
    (repeat refine DX_seq ?_); refine DX_drwq [4] (by kernel_rfl) ?_; intro w0 A S0 f0; (repeat (first | (refine gtxq rfl rfl ?_) | (refine gxq ?_) | ((with_reducible show DRq _ _ _ (_ :: _) _); first | (refine cxq _ (envG _ _ _ _ _ _) rfl rfl rfl rfl rfl ?_ (hc := by first | exact lv | exact k1 | exact k2 | exact k3 | exact k4 | exact k5 | exact k6)) | (refine sxq ?_)) | (refine eqsxq 3 _ rfl rfl rfl rfl (.inl rfl) (by kernel_rfl) (by kernel_rfl) rfl ?_))); refine DRq_nil ?_; refine kl1 ?_
    (repeat refine DX_seq ?_); refine DX_ret ?_; refine retx ?_; (try dsimp only [outV, unlist])
    exact Fin_pure rfl
set_option maxHeartbeats 16000000 in
theorem keyVerifies_w (lv : PC (envOf Tryd.prog) 26 [] (bD true)) (root : List UInt8) (n : Int) (text sig : List UInt8) (hr : root.length = 32) : PC (envOf Tryd.prog) 8 [hashD root, iD n, strD text, strD sig] (bD true) := by
  have hh : ∀ h, hashD h = .arr .u8 32 (fun i => ((h.getD i 0).toNat : Int)) := fun _ => rfl
  by_cases c1 : 16384 < text.length
  · have d1 : decide ((16384 : Int) < (text.length : Int)) = true := decide_eq_true (by omega)
    have hX := and_true; refine PC_atX Tryd.func8 rfl Tryd.ntmps8 Tryd.results8 rfl (by simp only [argsL, Nat.reduceAdd, u32D, u8D, iD, bD, strD, u32_xor, u32_or, u32_and, u32_add, u32_not, u32_shr, u32_shl, u8_u32, u32_u8]; exact rfl) ?_; intro w0 A
    have hX := And.intro hh (d1)
    have hK := And.intro (lv) trivial; (repeat refine DX_seq ?_); refine rgx [1, 2, 3, 4] ?_
    (repeat refine DX_seq ?_); refine rgx [1, 2, 3, 4, 15] ?_
    (repeat refine DX_seq ?_); refine iftx ?_
    (repeat refine DX_seq ?_); refine rgx [8] ?_
    (repeat refine DX_seq ?_); refine DX_ret ?_; refine retx ?_; (try dsimp only [outV, unlist])
    exact Fin_pure rfl
  have d1 : decide ((16384 : Int) < (text.length : Int)) = false := decide_eq_false (by omega)
  obtain ⟨i, e, k1, k2⟩ := place_ex n sig
  obtain ⟨e', k3, k4⟩ := verify_ex root text sig n hr (by omega)
  have hX := and_true; refine PC_atX Tryd.func8 rfl Tryd.ntmps8 Tryd.results8 rfl (by simp only [argsL, Nat.reduceAdd, u32D, u8D, iD, bD, strD, u32_xor, u32_or, u32_and, u32_add, u32_not, u32_shr, u32_shl, u8_u32, u32_u8]; exact rfl) ?_; intro w0 A
  have hX := And.intro hh (And.intro d1 (And.intro dec_i (dec_l)))
  have hK := And.intro (lv) (And.intro (k1) (And.intro (k2) (And.intro (k3) (And.intro (k4) trivial)))); (repeat refine DX_seq ?_); refine rgx [1, 2, 3, 4] ?_
  (repeat refine DX_seq ?_); refine rgx [1, 2, 3, 4, 15] ?_
  (repeat refine DX_seq ?_); refine iffx ?_
  (repeat refine DX_seq ?_); refine DX_skip ?_
  (repeat refine DX_seq ?_); refine rgx [1, 2, 3, 4, 9, 10] ?_
  (repeat refine DX_seq ?_); refine rgx [1, 2, 3, 4, 9, 10, 11, 12] ?_
  (repeat refine DX_seq ?_); refine rqgx [8] ?_
  (repeat refine DX_seq ?_); refine DX_ret ?_; refine retx ?_; (try dsimp only [outV, unlist])
  exact Fin_pure rfl
end Go.Proofs.YtedioenakmgdiaaDoor
