/- Laws of certs, walked: each grant that comes begins right behind one of its server's. -/
import Derived.Test.YtcdnpmpjeeiapaaDoorQPD
import Derived.Test.YtcdnpmpjeeiapaaDoorQDI
set_option linter.unusedSimpArgs false
set_option linter.unusedVariables false
set_option maxRecDepth 10000
namespace Go.Proofs.YtcdnpmpjeeiapaaDoor
open Go.RowKit
set_option maxHeartbeats 16000000 in
theorem kr6 (b0 : List Gr) (l : List Ce) (hb0 : ∀ x ∈ b0, x.rt.length = 32) (hl : ∀ c ∈ l, c.g.rt.length = 32) (hbl : b0.length ≤ 2199023255552) : PC (jb8 Tryd.prog) 4 [bkD b0, csD l] (bD true) := by
  have lv := kh0
  by_cases hn : 20 < l.length
  · have d1 : decide ((20 : Int) < (l.length : Int)) = true := decide_eq_true (by omega)
    have hX := and_true; refine jb6 Tryd.func4 rfl Tryd.ntmps4 Tryd.results4 rfl (by simp only [jb5, Nat.reduceAdd, u32D, u8D, iD, bD, strD, ja6, jb1, ja5, ja3, ja4, ja2, ja1, jb2, jb0]; exact rfl) ?_; intro w0 A
    have hX := And.intro ju1 (d1)
    have hK := And.intro (lv) trivial; (repeat refine ja0 ?_); refine rgx [0, 1] ?_
    (repeat refine ja0 ?_); refine rgx [0, 1, 16] ?_
    (repeat refine ja0 ?_); refine iffx ?_
    (repeat refine ja0 ?_); refine jb3 ?_
    (repeat refine ja0 ?_); refine rgx [0, 1, 19] ?_
    (repeat refine ja0 ?_); refine iftx ?_
    (repeat refine ja0 ?_); refine rgx [4] ?_
    (repeat refine ja0 ?_); refine ja9 ?_; refine retx ?_; (try dsimp only [outV, ja8])
    exact ja7 rfl
  have d1 : decide ((20 : Int) < (l.length : Int)) = false := decide_eq_false (by omega)
  have hX := and_true; refine jb6 Tryd.func4 rfl Tryd.ntmps4 Tryd.results4 rfl (by simp only [jb5, Nat.reduceAdd, u32D, u8D, iD, bD, strD, ja6, jb1, ja5, ja3, ja4, ja2, ja1, jb2, jb0]; exact rfl) ?_; intro w0 A
  have hX := And.intro ju1 (d1)
  have hK := And.intro (lv) trivial; (repeat refine ja0 ?_); refine rgx [0, 1] ?_
  (repeat refine ja0 ?_); refine rgx [0, 1, 16] ?_
  (repeat refine ja0 ?_); refine iffx ?_
  (repeat refine ja0 ?_); refine jb3 ?_
  (repeat refine ja0 ?_); refine rgx [0, 1, 19] ?_
  (repeat refine ja0 ?_); refine iffx ?_
  (repeat refine ja0 ?_); refine jb3 ?_
  (repeat refine ja0 ?_); refine rgx [0, 20, 21, 22] ?_
  (repeat refine ja0 ?_); refine jb9 ?_
  (repeat refine ja0 ?_); refine jf4 (fun m _ st => ∃ (k : Nat) (b : List Gr), k + m = l.length ∧ (∀ x ∈ b, x.rt.length = 32) ∧ b.length ≤ 2199023255552 ∧ st = mk [(0, bkD b), (20, csD l), (21, iD (l.length : Int)), (22, iD (k : Int))] []) l.length ⟨_, WeakX.refl _, 0, b0, by omega, hb0, hbl, rfl⟩ ?_
  rintro m _ _ ⟨k, b, hk, hb, hbn, rfl⟩
  have hX := And.intro ju1 (and_true)
  (repeat refine ja0 ?_); refine rgx [0, 20, 21, 22, 23] ?_
  (repeat refine ja0 ?_); refine ifx ?_ ?_
  · intro hc; (try simp only [hcs, ne_eq] at hc)
    have hkn : k < l.length := by omega
    have hc32 := kl6 hl hkn
    obtain ⟨c, hx⟩ : ∃ c, l.getD k cez = c := ⟨_, rfl⟩
    rw [hx] at hc32
    have kx := kp5 b c _ hc32 (kf7 b c hb hc32)
    have hall := qm9 (e := cerE b c) hb hc32
    have hsame := vf8 (b := b) (c := c) (e := cerE b c)
    have hok := vr1 (b := b) (c := c) (e := cerE b c)
    unfold beD at kx
    generalize extL b c (cerE b c) = y at *
    generalize extE b c (cerE b c) = e at *
    (repeat refine ja0 ?_); refine jb3 ?_
    (repeat refine ja0 ?_); refine jb9 ?_
    have hX := And.intro ju1 (And.intro jg9 (And.intro jc0 (hx)))
    have hK := And.intro (kx) trivial; (repeat refine ja0 ?_); refine rgx [0, 6, 20, 21, 22] ?_
    (repeat refine ja0 ?_); refine rgx [0, 6, 7, 8, 20, 21, 22] ?_
    by_cases he : e = 0
    · have d0 : decide (e = 0) = true := decide_eq_true he
      obtain ⟨s1, s2, s3, s4, s5⟩ := hok he
      obtain ⟨f1, f2⟩ := ve4 s3
      have hbeh := jq3 s4 f1
      obtain ⟨i1, i2, i3, i4, ⟨i5, i6⟩, _⟩ := qy0 s4 0 0
      have hy : y = insS b c.g := s5.trans i1
      have hr := jk7 (ks9 s4).2.1
      have hfr := (jr8 s2).1
      have k1 := km9 b c.g.sv (c.g.fr - 1)
      have k2 := km9 y c.g.sv c.g.fr
      have k3 := kb4 c.g hc32
      have tl := jp2 hc32
      have k4 := kn2 (ji6 b c.g.sv (c.g.fr - 1)).rt (jg3 c.g) c.sig (ji6 b c.g.sv (c.g.fr - 1)).hi (hb _ (qg2 f1)) (by omega)
      have k5 := js6 y
      have hT : js8 c.g = 0 := if_pos (jn9 s2)
      rw [hT, jj6] at k3
      rw [f2] at k4
      rw [kn4, f1] at k1
      rw [kn4, hy, i5, i6, ← hy] at k2
      rw [hy, i2, ← hy] at k5
      rw [hy.symm] at i3
      have hyn : y.length ≤ 2199023255552 := by rw [hy.symm] at i4; omega
      generalize ji6 b c.g.sv (c.g.fr - 1) = f at *
      generalize jg3 c.g = tx at *
      have d2 : decide (f.un = c.g.fr - 1) = true := decide_eq_true hbeh
      have d3 : decide ((y.length : Int) = (b.length : Int) + 1) = true := decide_eq_true (by omega)
      have hX := And.intro d0 (and_true)
      (repeat refine ja0 ?_); refine rgx [0, 6, 7, 20, 21, 22, 33] ?_
      (repeat refine ja0 ?_); refine iffx ?_
      (repeat refine ja0 ?_); refine jb3 ?_
      have hX := And.intro jc0 (and_true)
      have hK := And.intro (k1) (And.intro (k2) (And.intro (k3) (And.intro (k4) (And.intro (k5) trivial)))); (repeat refine ja0 ?_); refine rgx [0, 6, 7, 9, 10, 20, 21, 22] ?_
      (repeat refine ja0 ?_); refine rgx [0, 6, 7, 9, 10, 11, 12, 20, 21, 22] ?_
      (repeat refine ja0 ?_); refine rgx [0, 6, 7, 9, 10, 11, 12, 13, 14, 20, 21, 22] ?_
      have hX := And.intro jd7 (And.intro jc0 (And.intro dcI (And.intro dcL (And.intro d2 (d3)))))
      (repeat refine ja0 ?_); refine jc4 [7, 20, 21, 22, 120] ?_; intro w0 A S0 f0
      (repeat (first | (refine gtx rfl rfl ?_) | (refine gx ?_) | ((with_reducible show DR _ _ _ (_ :: _) _); first | (refine cx _ (envG _ _ _ _ _ _) rfl rfl rfl rfl rfl ?_ (hc := by first | exact k1 | exact k2 | exact k3 | exact k4 | exact k5))  | (refine sx ?_)) | (refine eqsx 6 _ rfl rfl rfl rfl (.inr rfl) (by kernel_rfl) (by kernel_rfl) rfl ?_))); refine jb4 ?_; refine kl1 ?_
      (repeat refine ja0 ?_); refine iffx ?_
      (repeat refine ja0 ?_); refine jb3 ?_
      have hX := And.intro jd7 (and_true)
      (repeat refine ja0 ?_); refine rgx [0, 20, 21, 22] ?_
      (repeat refine ja0 ?_); refine rgx [0, 20, 21, 22] ?_
      refine ⟨_, m - 1, WeakX.take 0 rfl rfl rfl, by omega, k + 1, y, by omega, hall, hyn, ?_⟩
      first | rfl | simp [iD, bkD, csD]
    · have d0 : decide (e = 0) = false := decide_eq_false he
      have hX := And.intro d0 (and_true)
      (repeat refine ja0 ?_); refine rgx [0, 6, 7, 20, 21, 22, 33] ?_
      (repeat refine ja0 ?_); refine iftx ?_
      have kb := js6 b
      by_cases hq : chkS b = 0
      · have hyb := hsame hq he
        subst hyb
        rw [hq] at kb
        have sg := qj4 y y (by omega) (fun i _ _ => by rw [ky6, decide_eq_true rfl])
        rw [decide_eq_true rfl] at sg
        have hK := And.intro (kb) (And.intro (sg) trivial); (repeat refine ja0 ?_); refine rggx [0, 20, 21, 22, 42] ?_
        (repeat refine ja0 ?_); refine iffx ?_
        (repeat refine ja0 ?_); refine jb3 ?_
        (repeat refine ja0 ?_); refine je4 ?_
        (repeat refine ja0 ?_); refine rgx [0, 20, 21, 22] ?_
        refine ⟨_, m - 1, WeakX.take 0 rfl rfl rfl, by omega, k + 1, y, by omega, hb, hbn, ?_⟩
        first | rfl | simp [iD, bkD, csD]
      · generalize chkS b = q at *
        have d5 : decide (q = 0) = false := decide_eq_false hq
        have hX := And.intro d5 (and_true)
        have hK := And.intro (kb) trivial; (repeat refine ja0 ?_); refine rggx [0, 20, 21, 22, 42] ?_
        (repeat refine ja0 ?_); refine iffx ?_
        (repeat refine ja0 ?_); refine jb3 ?_
        (repeat refine ja0 ?_); refine je4 ?_
        (repeat refine ja0 ?_); refine rgx [0, 20, 21, 22] ?_
        refine ⟨_, m - 1, WeakX.take 0 rfl rfl rfl, by omega, k + 1, b, by omega, hb, hbn, ?_⟩
        first | rfl | simp [iD, bkD, csD]
  · intro hc; (try simp only [hcs, ne_eq] at hc)
    (repeat refine ja0 ?_); refine je4 ?_
    (repeat refine ja0 ?_); refine rgx [4] ?_
    (repeat refine ja0 ?_); refine ja9 ?_; refine retx ?_; (try dsimp only [outV, ja8])
    exact ja7 rfl
end Go.Proofs.YtcdnpmpjeeiapaaDoor
