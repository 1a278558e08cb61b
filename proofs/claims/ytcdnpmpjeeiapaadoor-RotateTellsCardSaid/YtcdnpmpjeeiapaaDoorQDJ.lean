/- Laws of certs, walked: they have their bytes, and are read. -/
import Derived.Test.YtcdnpmpjeeiapaaDoorQPD
import Derived.Test.YtcdnpmpjeeiapaaDoorQDI
import Derived.Test.YtcdnpmpjeeiapaaDoorQDH
import Derived.Test.YtcdnpmpjeeiapaaDoorQDF
set_option linter.unusedSimpArgs false
set_option linter.unusedVariables false
set_option maxRecDepth 10000
namespace Go.Proofs.YtcdnpmpjeeiapaaDoor
open Go.RowKit
set_option maxHeartbeats 16000000 in
theorem kx5 (c : Ce) (s : List UInt8) (h32 : c.g.rt.length = 32) : PC (jb8 Tryd.prog) 3 [ceD c, strD s] (bD true) := by
  have lv := kh0
  by_cases c1 : 16384 < s.length
  · have d1 : decide ((16384 : Int) < (s.length : Int)) = true := decide_eq_true (by omega)
    have hX := and_true; refine jb6 Tryd.func3 rfl Tryd.ntmps3 Tryd.results3 rfl (by simp only [jb5, Nat.reduceAdd, u32D, u8D, iD, bD, strD, ja6, jb1, ja5, ja3, ja4, ja2, ja1, jb2, jb0]; exact rfl) ?_; intro w0 A
    have hX := And.intro d1 (and_true)
    have hK := And.intro (lv) trivial; (repeat refine ja0 ?_); refine rgx [1, 2] ?_
    (repeat refine ja0 ?_); refine rgx [1, 2, 19] ?_
    (repeat refine ja0 ?_); refine iftx ?_
    (repeat refine ja0 ?_); refine rgx [4] ?_
    (repeat refine ja0 ?_); refine ja9 ?_; refine retx ?_; (try dsimp only [outV, ja8])
    exact ja7 rfl
  have d1 : decide ((16384 : Int) < (s.length : Int)) = false := decide_eq_false (by omega)
  have k1 := kb4 c.g h32
  have k2 := kp1 c.g h32
  have k3 := jx4 c h32
  have k4 := qi6 c h32
  have k5 := kc9 s (by omega)
  have k6 := qh6 s (by omega)
  have k7 := js3 c
  have k8 := js9 c
  rw [jj6] at k1 k2 k3 k4
  unfold cpD at k5 k6
  generalize jg3 c.g = tx at *
  generalize js8 c.g = te at *
  generalize bytC c = by' at *
  generalize chkC c = q at *
  generalize (parC s).1 = y at *
  generalize (parC s).2 = e at *
  have hX := and_true; refine jb6 Tryd.func3 rfl Tryd.ntmps3 Tryd.results3 rfl (by simp only [jb5, Nat.reduceAdd, u32D, u8D, iD, bD, strD, ja6, jb1, ja5, ja3, ja4, ja2, ja1, jb2, jb0]; exact rfl) ?_; intro w0 A
  have hX := And.intro d1 (And.intro jg9 (And.intro jc0 (And.intro dcI (And.intro dcS (dcL)))))
  (repeat refine ja0 ?_); refine jc4 [1, 2] ?_; intro w0 A S0 f0; (repeat ((with_reducible show DR _ _ _ (_ :: _) _); first | (refine cx _ (envG _ _ _ _ _ _) rfl rfl rfl rfl rfl ?_ (hc := by first | exact lv | exact k1 | exact k2 | exact k3 | exact k4 | exact k5 | exact k6 | exact k7 | exact k8))  | (refine sx ?_))); refine jb4 ?_; refine kl1 ?_
  (repeat refine ja0 ?_); refine jc4 [1, 2, 19] ?_; intro w0 A S0 f0; (repeat ((with_reducible show DR _ _ _ (_ :: _) _); first | (refine cx _ (envG _ _ _ _ _ _) rfl rfl rfl rfl rfl ?_ (hc := by first | exact lv | exact k1 | exact k2 | exact k3 | exact k4 | exact k5 | exact k6 | exact k7 | exact k8))  | (refine sx ?_))); refine jb4 ?_; refine kl1 ?_
  (repeat refine ja0 ?_); refine iffx ?_
  (repeat refine ja0 ?_); refine jb3 ?_
  (repeat refine ja0 ?_); refine jc4 [1, 2, 5, 6] ?_; intro w0 A S0 f0; (repeat ((with_reducible show DR _ _ _ (_ :: _) _); first | (refine cx _ (envG _ _ _ _ _ _) rfl rfl rfl rfl rfl ?_ (hc := by first | exact lv | exact k1 | exact k2 | exact k3 | exact k4 | exact k5 | exact k6 | exact k7 | exact k8))  | (refine sx ?_))); refine jb4 ?_; refine kl1 ?_
  (repeat refine ja0 ?_); refine jc4 [1, 2, 5, 6, 7, 8] ?_; intro w0 A S0 f0; (repeat ((with_reducible show DR _ _ _ (_ :: _) _); first | (refine cx _ (envG _ _ _ _ _ _) rfl rfl rfl rfl rfl ?_ (hc := by first | exact lv | exact k1 | exact k2 | exact k3 | exact k4 | exact k5 | exact k6 | exact k7 | exact k8))  | (refine sx ?_))); refine jb4 ?_; refine kl1 ?_
  (repeat refine ja0 ?_); refine jc4 [1, 2, 5, 6, 7, 8, 9, 10] ?_; intro w0 A S0 f0; (repeat ((with_reducible show DR _ _ _ (_ :: _) _); first | (refine cx _ (envG _ _ _ _ _ _) rfl rfl rfl rfl rfl ?_ (hc := by first | exact lv | exact k1 | exact k2 | exact k3 | exact k4 | exact k5 | exact k6 | exact k7 | exact k8))  | (refine sx ?_))); refine jb4 ?_; refine kl1 ?_
  (repeat refine ja0 ?_); refine jc4 [1, 2, 5, 6, 7, 8, 9, 10, 11, 12] ?_; intro w0 A S0 f0; (repeat ((with_reducible show DR _ _ _ (_ :: _) _); first | (refine cx _ (envG _ _ _ _ _ _) rfl rfl rfl rfl rfl ?_ (hc := by first | exact lv | exact k1 | exact k2 | exact k3 | exact k4 | exact k5 | exact k6 | exact k7 | exact k8))  | (refine sx ?_))); refine jb4 ?_; refine kl1 ?_
  (repeat refine ja0 ?_); refine jc4 [1, 2, 5, 6, 7, 8, 9, 10, 11, 12, 13, 14] ?_; intro w0 A S0 f0; (repeat ((with_reducible show DR _ _ _ (_ :: _) _); first | (refine cx _ (envG _ _ _ _ _ _) rfl rfl rfl rfl rfl ?_ (hc := by first | exact lv | exact k1 | exact k2 | exact k3 | exact k4 | exact k5 | exact k6 | exact k7 | exact k8))  | (refine sx ?_))); refine jb4 ?_; refine kl1 ?_
  (repeat refine ja0 ?_); refine jc4 [2, 5, 6, 7, 8, 9, 10, 11, 12, 13, 14, 15, 16] ?_; intro w0 A S0 f0; (repeat ((with_reducible show DR _ _ _ (_ :: _) _); first | (refine cx _ (envG _ _ _ _ _ _) rfl rfl rfl rfl rfl ?_ (hc := by first | exact lv | exact k1 | exact k2 | exact k3 | exact k4 | exact k5 | exact k6 | exact k7 | exact k8))  | (refine sx ?_))); refine jb4 ?_; refine kl1 ?_
  (repeat refine ja0 ?_); refine jn1 [4] (by kernel_rfl) ?_; intro w0 A S0 f0
  (repeat (first | (refine gtxq rfl rfl ?_) | (refine gxq ?_) | ((with_reducible show DRq _ _ _ (_ :: _) _); first | (refine cxq _ (envG _ _ _ _ _ _) rfl rfl rfl rfl rfl ?_ (hc := by first | exact lv | exact k1 | exact k2 | exact k3 | exact k4 | exact k5 | exact k6 | exact k7 | exact k8)) | (refine sxq ?_)) | (refine kx9 6 _ rfl rfl rfl rfl (.inl rfl) (by kernel_rfl) (by kernel_rfl) rfl ?_))); refine jh2 ?_; refine kl1 ?_
  (repeat refine ja0 ?_); refine ja9 ?_; refine retx ?_; (try dsimp only [outV, ja8])
  exact ja7 rfl
end Go.Proofs.YtcdnpmpjeeiapaaDoor
