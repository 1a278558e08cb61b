/- A law of certs, walked: a cert is read from its bytes. -/
import Derived.Test.YtcdnpmpjeeiapaaDoorQPD
import Derived.Test.YtcdnpmpjeeiapaaDoorQDI
set_option linter.unusedSimpArgs false
set_option linter.unusedVariables false
set_option maxRecDepth 10000
namespace Go.Proofs.YtcdnpmpjeeiapaaDoor
open Go.RowKit
theorem vj2 : ceD cez = ceD ⟨⟨0, 0, 0, 0, List.replicate 32 0⟩, []⟩ := by
  have e : (fun i => (((List.replicate 32 (0 : UInt8)).getD i 0).toNat : Int)) = fun i => ((([] : List UInt8).getD i 0).toNat : Int) := by
    funext i
    have : (List.replicate 32 (0 : UInt8)).getD i 0 = 0 := by
      rw [List.getD_eq_getElem?_getD, List.getElem?_replicate]
      split <;> rfl
    rw [this]
    rfl
  show D.cons (grD gz) _ = D.cons (grD ⟨0, 0, 0, 0, List.replicate 32 0⟩) _
  rw [jc0, jc0, e]
  rfl
theorem vg1 : PC (jb8 Tryd.prog) 16 [ceD cez] (teD [] 2) := by
  rw [vj2]
  exact jx4 ⟨⟨0, 0, 0, 0, List.replicate 32 0⟩, []⟩ (List.length_replicate ..)
theorem qt3 (s : List UInt8) : ((parC s).2 = 0 ∧ chkC (parC s).1 = 0 ∧ (parC s).1.g.rt.length = 32 ∧ bytC (parC s).1 = s) ∨ ((parC s).2 = 6 ∧ (parC s).1 = cez) := by
  by_cases h : jp7 s
  · have e : parC s = (parL s, 0) := if_pos h
    have := qy2 (s := s) (by rw [e])
    exact .inl ⟨by rw [e], this⟩
  · have e : parC s = (⟨gz, []⟩, 6) := if_neg h
    exact .inr ⟨by rw [e], by rw [e]; rfl⟩
set_option maxHeartbeats 16000000 in
theorem qf1 (c : Ce) (s : List UInt8) (h32 : c.g.rt.length = 32) (hs : s.length ≤ 140737488351232) : PC (jb8 Tryd.prog) 5 [ceD c, strD s] (bD true) := by
  have lv := kh0
  have hbl := kz7 c h32
  have k1 := jx4 c h32
  have k2 := kc9 (bytC c) (by omega)
  have k3 := kc9 s (by omega)
  obtain ⟨t, w4, k4, hor⟩ : ∃ (t : List UInt8) (w4 : Int), PC (jb8 Tryd.prog) 16 [ceD (parC s).1] (teD t w4) ∧ ((parC s).2 = 0 → w4 = 0 ∧ t = s) := by
    rcases qt3 s with ⟨e0, e1, e2, e3⟩ | ⟨e0, e1⟩
    · refine ⟨bytC (parC s).1, chkC (parC s).1, jx4 _ e2, fun _ => ⟨e1, e3⟩⟩
    · refine ⟨[], 2, by rw [e1]; exact vg1, fun h => by rw [e0] at h; cases h⟩
  have hback : chkC c = 0 → (parC (bytC c)).1 = c ∧ (parC (bytC c)).2 = 0 := fun h => by rw [qg1 h h32]; exact ⟨rfl, rfl⟩
  rw [jj6] at k1 k4
  unfold cpD at k2 k3
  generalize bytC c = by' at *
  generalize chkC c = q at *
  generalize (parC by').1 = x at *
  generalize (parC by').2 = w2 at *
  generalize (parC s).1 = y at *
  generalize (parC s).2 = w3 at *
  by_cases c1 : q = 0
  · obtain ⟨rfl, rfl⟩ := hback c1
    have d1 : decide (q = 0) = true := decide_eq_true c1
    by_cases c2 : w3 = 0
    · obtain ⟨rfl, rfl⟩ := hor c2
      have d2 : decide (w3 = 0) = true := decide_eq_true c2
      have hX := and_true; refine jb6 Tryd.func5 rfl Tryd.ntmps5 Tryd.results5 rfl (by simp only [jb5, Nat.reduceAdd, u32D, u8D, iD, bD, strD, ja6, jb1, ja5, ja3, ja4, ja2, ja1, jb2, jb0]; exact rfl) ?_; intro w0 A
      have hX := And.intro d1 (And.intro d2 (And.intro jg9 (And.intro jc0 (And.intro dcI (And.intro dcS (dcL))))))
      have hK := And.intro (lv) (And.intro (k1) (And.intro (k2) (And.intro (k3) (And.intro (k4) trivial)))); (repeat refine ja0 ?_); refine rgx [1, 2] ?_
      (repeat refine ja0 ?_); refine rgx [1, 2, 14] ?_
      (repeat refine ja0 ?_); refine iffx ?_
      (repeat refine ja0 ?_); refine jb3 ?_
      (repeat refine ja0 ?_); refine rgx [1, 2, 5, 6] ?_
      (repeat refine ja0 ?_); refine rgx [1, 2, 6, 7, 8] ?_
      (repeat refine ja0 ?_); refine rgx [1, 2, 6, 7, 8, 9, 10] ?_
      (repeat refine ja0 ?_); refine rgx [1, 2, 6, 7, 8, 10, 11, 12] ?_
      (repeat refine ja0 ?_); refine jc4 [4] ?_; intro w0 A S0 f0
      (repeat (first | (refine gtx rfl rfl ?_) | (refine gx ?_) | ((with_reducible show DR _ _ _ (_ :: _) _); first | (refine cx _ (envG _ _ _ _ _ _) rfl rfl rfl rfl rfl ?_ (hc := by first | exact lv | exact k1 | exact k2 | exact k3 | exact k4))  | (refine sx ?_)) | (refine eqsx 6 _ rfl rfl rfl rfl (.inl rfl) (by kernel_rfl) (by kernel_rfl) rfl ?_))); refine jb4 ?_; refine kl1 ?_
      (repeat refine ja0 ?_); refine ja9 ?_; refine retx ?_; (try dsimp only [outV, ja8])
      exact ja7 rfl
    · have d2 : decide (w3 = 0) = false := decide_eq_false c2
      have hX := and_true; refine jb6 Tryd.func5 rfl Tryd.ntmps5 Tryd.results5 rfl (by simp only [jb5, Nat.reduceAdd, u32D, u8D, iD, bD, strD, ja6, jb1, ja5, ja3, ja4, ja2, ja1, jb2, jb0]; exact rfl) ?_; intro w0 A
      have hX := And.intro d1 (And.intro d2 (And.intro jg9 (And.intro jc0 (And.intro dcI (And.intro dcS (dcL))))))
      have hK := And.intro (lv) (And.intro (k1) (And.intro (k2) (And.intro (k3) (And.intro (k4) trivial)))); (repeat refine ja0 ?_); refine rgx [1, 2] ?_
      (repeat refine ja0 ?_); refine rgx [1, 2, 14] ?_
      (repeat refine ja0 ?_); refine iffx ?_
      (repeat refine ja0 ?_); refine jb3 ?_
      (repeat refine ja0 ?_); refine rgx [1, 2, 5, 6] ?_
      (repeat refine ja0 ?_); refine rgx [1, 2, 6, 7, 8] ?_
      (repeat refine ja0 ?_); refine rgx [1, 2, 6, 7, 8, 9, 10] ?_
      (repeat refine ja0 ?_); refine rgx [1, 2, 6, 7, 8, 10, 11, 12] ?_
      (repeat refine ja0 ?_); refine jc4 [4] ?_; intro w0 A S0 f0
      (repeat (first | (refine gtx rfl rfl ?_) | (refine gx ?_) | ((with_reducible show DR _ _ _ (_ :: _) _); first | (refine cx _ (envG _ _ _ _ _ _) rfl rfl rfl rfl rfl ?_ (hc := by first | exact lv | exact k1 | exact k2 | exact k3 | exact k4))  | (refine sx ?_)) | (refine eqsx 6 _ rfl rfl rfl rfl (.inl rfl) (by kernel_rfl) (by kernel_rfl) rfl ?_))); refine jb4 ?_; refine kl1 ?_
      (repeat refine ja0 ?_); refine ja9 ?_; refine retx ?_; (try dsimp only [outV, ja8])
      exact ja7 rfl
  · have d1 : decide (q = 0) = false := decide_eq_false c1
    by_cases c2 : w3 = 0
    · obtain ⟨rfl, rfl⟩ := hor c2
      have d2 : decide (w3 = 0) = true := decide_eq_true c2
      have hX := and_true; refine jb6 Tryd.func5 rfl Tryd.ntmps5 Tryd.results5 rfl (by simp only [jb5, Nat.reduceAdd, u32D, u8D, iD, bD, strD, ja6, jb1, ja5, ja3, ja4, ja2, ja1, jb2, jb0]; exact rfl) ?_; intro w0 A
      have hX := And.intro d1 (And.intro d2 (And.intro jg9 (And.intro jc0 (And.intro dcI (And.intro dcS (dcL))))))
      have hK := And.intro (lv) (And.intro (k1) (And.intro (k2) (And.intro (k3) (And.intro (k4) trivial)))); (repeat refine ja0 ?_); refine rgx [1, 2] ?_
      (repeat refine ja0 ?_); refine rgx [1, 2, 14] ?_
      (repeat refine ja0 ?_); refine iffx ?_
      (repeat refine ja0 ?_); refine jb3 ?_
      (repeat refine ja0 ?_); refine rgx [1, 2, 5, 6] ?_
      (repeat refine ja0 ?_); refine rgx [1, 2, 6, 7, 8] ?_
      (repeat refine ja0 ?_); refine rgx [1, 2, 6, 7, 8, 9, 10] ?_
      (repeat refine ja0 ?_); refine rgx [1, 2, 6, 7, 8, 10, 11, 12] ?_
      (repeat refine ja0 ?_); refine jc4 [4] ?_; intro w0 A S0 f0
      (repeat (first | (refine gtx rfl rfl ?_) | (refine gx ?_) | ((with_reducible show DR _ _ _ (_ :: _) _); first | (refine cx _ (envG _ _ _ _ _ _) rfl rfl rfl rfl rfl ?_ (hc := by first | exact lv | exact k1 | exact k2 | exact k3 | exact k4))  | (refine sx ?_)) | (refine eqsx 6 _ rfl rfl rfl rfl (.inl rfl) (by kernel_rfl) (by kernel_rfl) rfl ?_))); refine jb4 ?_; refine kl1 ?_
      (repeat refine ja0 ?_); refine ja9 ?_; refine retx ?_; (try dsimp only [outV, ja8])
      exact ja7 rfl
    · have d2 : decide (w3 = 0) = false := decide_eq_false c2
      have hX := and_true; refine jb6 Tryd.func5 rfl Tryd.ntmps5 Tryd.results5 rfl (by simp only [jb5, Nat.reduceAdd, u32D, u8D, iD, bD, strD, ja6, jb1, ja5, ja3, ja4, ja2, ja1, jb2, jb0]; exact rfl) ?_; intro w0 A
      have hX := And.intro d1 (And.intro d2 (And.intro jg9 (And.intro jc0 (And.intro dcI (And.intro dcS (dcL))))))
      have hK := And.intro (lv) (And.intro (k1) (And.intro (k2) (And.intro (k3) (And.intro (k4) trivial)))); (repeat refine ja0 ?_); refine rgx [1, 2] ?_
      (repeat refine ja0 ?_); refine rgx [1, 2, 14] ?_
      (repeat refine ja0 ?_); refine iffx ?_
      (repeat refine ja0 ?_); refine jb3 ?_
      (repeat refine ja0 ?_); refine rgx [1, 2, 5, 6] ?_
      (repeat refine ja0 ?_); refine rgx [1, 2, 6, 7, 8] ?_
      (repeat refine ja0 ?_); refine rgx [1, 2, 6, 7, 8, 9, 10] ?_
      (repeat refine ja0 ?_); refine rgx [1, 2, 6, 7, 8, 10, 11, 12] ?_
      (repeat refine ja0 ?_); refine jc4 [4] ?_; intro w0 A S0 f0
      (repeat (first | (refine gtx rfl rfl ?_) | (refine gx ?_) | ((with_reducible show DR _ _ _ (_ :: _) _); first | (refine cx _ (envG _ _ _ _ _ _) rfl rfl rfl rfl rfl ?_ (hc := by first | exact lv | exact k1 | exact k2 | exact k3 | exact k4))  | (refine sx ?_)) | (refine eqsx 6 _ rfl rfl rfl rfl (.inl rfl) (by kernel_rfl) (by kernel_rfl) rfl ?_))); refine jb4 ?_; refine kl1 ?_
      (repeat refine ja0 ?_); refine ja9 ?_; refine retx ?_; (try dsimp only [outV, ja8])
      exact ja7 rfl
end Go.Proofs.YtcdnpmpjeeiapaaDoor
