/- What a key signs is verified by its root; answers that the document gives for keys. -/
import Derived.Test.YtedioenakmgdiaaDoorPD
import Derived.Test.YtedioenakmgdiaaDoorPS
import Derived.Test.YtedioenakmgdiaaDoorPR
import Derived.Test.YtedioenakmgdiaaDoorPO
import Derived.Test.YtedioenakmgdiaaDoorPY
namespace Go.Proofs.YtedioenakmgdiaaDoor
set_option linter.unusedSimpArgs false
set_option linter.unusedVariables false
set_option maxRecDepth 10000
open Go.RowKit
theorem path32 (s : List UInt8) (m n : Nat) (hn : n < 2 ^ m) : ∀ x ∈ pathP m (leavesS s (2 ^ m)) n, x.length = 32 := pathP_all m _ n (leavesS_len s _) hn (leavesS_all s _)
theorem sigK_len (s text : List UInt8) (m n : Nat) (hn : n < 2 ^ m) : (sigK s m n text).length = 1089 + 32 * m := by
  unfold sigK
  rw [List.length_cons, List.length_append, signS_len', flat_len _ (path32 s m n hn), pathP_len]
  omega
theorem sigK_at (s text : List UInt8) (m n : Nat) : (sigK s m n text).getD 0 0 = UInt8.ofNat n := rfl
theorem sigK_drop (s text : List UInt8) (m n : Nat) : (sigK s m n text).drop 1089 = (pathP m (leavesS s (2 ^ m)) n).flatten := by
  have h : (UInt8.ofNat n :: signS (seedS s n) text).length = 1089 := by rw [List.length_cons, signS_len']
  show ((UInt8.ofNat n :: signS (seedS s n) text) ++ _).drop 1089 = _
  exact List.drop_left' h
theorem sigK_mid (s text : List UInt8) (m n : Nat) : ((sigK s m n text).take 1089).drop 1 = signS (seedS s n) text := by
  have h : (UInt8.ofNat n :: signS (seedS s n) text).length = 1089 := by rw [List.length_cons, signS_len']
  have e : (sigK s m n text).take 1089 = UInt8.ofNat n :: signS (seedS s n) text := by
    show ((UInt8.ofNat n :: signS (seedS s n) text) ++ _).take 1089 = _
    exact List.take_left' h
  rw [e]; rfl
theorem two_pow_256 {m : Nat} (hm : m ≤ 7) : 2 ^ m < 256 := by
  have := two_pow_big hm
  omega
theorem verA_sig (s text : List UInt8) (m n : Nat) (hm : m ≤ 7) (hn : n < 2 ^ m) : verA text (sigK s m n text) m = rootK s m := by
  have h2 := two_pow_256 hm
  have hf := chunk_flat _ (path32 s m n hn)
  rw [pathP_len] at hf
  unfold verA
  rw [sigK_drop, sigK_mid, rec_sign, hf, sigK_at, ofNat_b (by omega), ← leavesS_at s (2 ^ m) n hn]
  exact climb_path m _ n (leavesS_len s _) hn
theorem verS_yes (s text : List UInt8) (m n : Nat) (hm : m ≤ 7) (hn : n < 2 ^ m) : verS (rootK s m) text (sigK s m n text) m = 0 := by
  unfold verS
  rw [verA_sig s text m n hm hn, if_pos rfl]
def rz : List UInt8 := List.replicate 32 0
theorem rep0 (k i : Nat) : (List.replicate k (0 : UInt8)).getD i 0 = 0 := by
  rw [List.getD_eq_getElem?_getD, List.getElem?_replicate]
  split <;> rfl
theorem rz_eq : hashD rz = .arr .u8 32 (fun _ => 0) := by
  unfold hashD rz
  congr 1
  funext i
  rw [rep0]
  rfl
theorem live_root : rootK [115] 1 = kRoot := kRoot_eq
theorem live_no : verS rz [97, 98, 99] (sigK [115] 1 1 [97, 98, 99]) 1 = 9 := by
  unfold verS
  rw [verA_sig [115] [97, 98, 99] 1 1 (by omega) (by omega), live_root, if_neg (by decide)]
set_option maxHeartbeats 16000000 in
theorem lives05_c : PC (envOf Tryd.prog) 26 [] (bD true) := by
  have hh : ∀ h, hashD h = .arr .u8 32 (fun i => ((h.getD i 0).toNat : Int)) := fun _ => rfl
  have c1 : PC (envOf Tryd.prog) 27 [keyD [115] 1 1] (heD (rootK [115] 1) 0) := keyrootOk_c [115] 1 1 (by decide) (by decide) (by omega) (by omega)
  have c2 : PC (envOf Tryd.prog) 29 [keyD [115] 1 1, strD [97, 98, 99]] (ksD (keyD [115] 1 2) (sigK [115] 1 1 [97, 98, 99]) 0) := keysignOk_c [115] [97, 98, 99] 1 1 (by decide) (by decide) (by omega) (by omega) (by decide)
  have c3 : PC (envOf Tryd.prog) 29 [keyD [115] 1 2, strD [97, 98, 99]] (ksD (keyD [115] 1 2) [] 10) := keysignOver_c [115] [97, 98, 99] 1 (by decide) (by decide) (by omega)
  have hsl := sigK_len [115] [97, 98, 99] 1 1 (by omega)
  have c4 : PC (envOf Tryd.prog) 33 [iD 1, strD (sigK [115] 1 1 [97, 98, 99])] (plD 1) := placeOk_c 1 _ (by omega) hsl (by rw [sigK_at]; decide)
  have c5 : PC (envOf Tryd.prog) 33 [iD 0, strD (sigK [115] 1 1 [97, 98, 99])] plN := placeNo_c 0 _ (.inr (.inr (.inl (by rw [hsl]; decide))))
  have c6 := verifyOk_c (rootK [115] 1) [97, 98, 99] _ 1 (rootK_len _ _) (by omega) hsl (by rw [sigK_at]; decide) (by decide)
  rw [verS_yes [115] [97, 98, 99] 1 1 (by omega) (by omega)] at c6
  have c7 := verifyOk_c rz [97, 98, 99] _ 1 (by simp [rz]) (by omega) hsl (by rw [sigK_at]; decide) (by decide)
  rw [live_no, rz_eq] at c7
  have c6' : PC (envOf Tryd.prog) 35 [hashD (rootK [115] 1), iD 1, strD [97, 98, 99], strD (sigK [115] 1 1 [97, 98, 99])] (iD 0) := c6
  have c7' : PC (envOf Tryd.prog) 35 [.arr .u8 32 (fun _ => 0), iD 1, strD [97, 98, 99], strD (sigK [115] 1 1 [97, 98, 99])] (iD 9) := c7
  have c8 := checkNo_c [] 0 0 (.inl rfl)
  clear c6 c7
  unfold heD at c1
  unfold ksD at c2 c3
  unfold plD at c4
  unfold plN at c5
  generalize rootK [115] 1 = rt at *
  generalize sigK [115] 1 1 [97, 98, 99] = sg at *
  have hX := and_true; refine PC_atX Tryd.func26 rfl Tryd.ntmps26 Tryd.results26 rfl (by simp only [argsL, Nat.reduceAdd, u32D, u8D, iD, bD, strD, u32_xor, u32_or, u32_and, u32_add, u32_not, u32_shr, u32_shl, u8_u32, u32_u8]; exact rfl) ?_; intro w0 A
  have hX := And.intro keyD_eq (And.intro hh (hsl))
  (repeat refine DX_seq ?_); refine DX_reg [] ?_; intro w0 A S0 f0; (repeat ((with_reducible show DR _ _ _ (_ :: _) _); first | (refine cx _ (envG _ _ _ _ _ _) rfl rfl rfl rfl rfl ?_ (hc := by first | exact c1 | exact c2 | exact c3 | exact c4 | exact c5 | exact c6' | exact c7' | exact c8)) | (refine eqsx 3 _ rfl rfl rfl rfl (.inl rfl) (by kernel_rfl) (by kernel_rfl) rfl ?_) | (refine sx ?_))); refine DR_nil ?_; refine kl1 ?_
  (repeat refine DX_seq ?_); refine DX_reg [1] ?_; intro w0 A S0 f0; (repeat ((with_reducible show DR _ _ _ (_ :: _) _); first | (refine cx _ (envG _ _ _ _ _ _) rfl rfl rfl rfl rfl ?_ (hc := by first | exact c1 | exact c2 | exact c3 | exact c4 | exact c5 | exact c6' | exact c7' | exact c8)) | (refine eqsx 3 _ rfl rfl rfl rfl (.inl rfl) (by kernel_rfl) (by kernel_rfl) rfl ?_) | (refine sx ?_))); refine DR_nil ?_; refine kl1 ?_
  (repeat refine DX_seq ?_); refine DX_reg [1, 2, 3] ?_; intro w0 A S0 f0; (repeat ((with_reducible show DR _ _ _ (_ :: _) _); first | (refine cx _ (envG _ _ _ _ _ _) rfl rfl rfl rfl rfl ?_ (hc := by first | exact c1 | exact c2 | exact c3 | exact c4 | exact c5 | exact c6' | exact c7' | exact c8)) | (refine eqsx 3 _ rfl rfl rfl rfl (.inl rfl) (by kernel_rfl) (by kernel_rfl) rfl ?_) | (refine sx ?_))); refine DR_nil ?_; refine kl1 ?_
  (repeat refine DX_seq ?_); refine DX_reg [2, 3, 4, 5, 6] ?_; intro w0 A S0 f0; (repeat ((with_reducible show DR _ _ _ (_ :: _) _); first | (refine cx _ (envG _ _ _ _ _ _) rfl rfl rfl rfl rfl ?_ (hc := by first | exact c1 | exact c2 | exact c3 | exact c4 | exact c5 | exact c6' | exact c7' | exact c8)) | (refine eqsx 3 _ rfl rfl rfl rfl (.inl rfl) (by kernel_rfl) (by kernel_rfl) rfl ?_) | (refine sx ?_))); refine DR_nil ?_; refine kl1 ?_
  (repeat refine DX_seq ?_); refine DX_reg [2, 3, 4, 5, 6, 8, 9] ?_; intro w0 A S0 f0; (repeat ((with_reducible show DR _ _ _ (_ :: _) _); first | (refine cx _ (envG _ _ _ _ _ _) rfl rfl rfl rfl rfl ?_ (hc := by first | exact c1 | exact c2 | exact c3 | exact c4 | exact c5 | exact c6' | exact c7' | exact c8)) | (refine eqsx 3 _ rfl rfl rfl rfl (.inl rfl) (by kernel_rfl) (by kernel_rfl) rfl ?_) | (refine sx ?_))); refine DR_nil ?_; refine kl1 ?_
  (repeat refine DX_seq ?_); refine DX_reg [2, 3, 4, 5, 6, 8, 9, 10, 11] ?_; intro w0 A S0 f0; (repeat ((with_reducible show DR _ _ _ (_ :: _) _); first | (refine cx _ (envG _ _ _ _ _ _) rfl rfl rfl rfl rfl ?_ (hc := by first | exact c1 | exact c2 | exact c3 | exact c4 | exact c5 | exact c6' | exact c7' | exact c8)) | (refine eqsx 3 _ rfl rfl rfl rfl (.inl rfl) (by kernel_rfl) (by kernel_rfl) rfl ?_) | (refine sx ?_))); refine DR_nil ?_; refine kl1 ?_
  (repeat refine DX_seq ?_); refine DX_reg [2, 3, 4, 5, 6, 8, 9, 10, 11, 13] ?_; intro w0 A S0 f0; (repeat ((with_reducible show DR _ _ _ (_ :: _) _); first | (refine cx _ (envG _ _ _ _ _ _) rfl rfl rfl rfl rfl ?_ (hc := by first | exact c1 | exact c2 | exact c3 | exact c4 | exact c5 | exact c6' | exact c7' | exact c8)) | (refine eqsx 3 _ rfl rfl rfl rfl (.inl rfl) (by kernel_rfl) (by kernel_rfl) rfl ?_) | (refine sx ?_))); refine DR_nil ?_; refine kl1 ?_
  (repeat refine DX_seq ?_); refine DX_reg [0] ?_; intro w0 A S0 f0; (repeat (first | (refine gtx rfl rfl ?_) | (refine gx ?_) | ((with_reducible show DR _ _ _ (_ :: _) _); first | (refine cx _ (envG _ _ _ _ _ _) rfl rfl rfl rfl rfl ?_ (hc := by first | exact c1 | exact c2 | exact c3 | exact c4 | exact c5 | exact c6' | exact c7' | exact c8)) | (refine eqsx 3 _ rfl rfl rfl rfl (.inl rfl) (by kernel_rfl) (by kernel_rfl) rfl ?_) | (refine sx ?_)))); refine DR_nil ?_; refine kl1 ?_
  (repeat refine DX_seq ?_); refine DX_ret ?_; refine retx ?_; (try dsimp only [outV, unlist])
  exact Fin_pure rfl
end Go.Proofs.YtedioenakmgdiaaDoor
