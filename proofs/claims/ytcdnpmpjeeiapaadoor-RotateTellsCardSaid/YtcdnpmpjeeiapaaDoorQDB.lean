/- How a cert comes to a book, plainly. A cert's bytes; numbers are read, one by one. -/
import Derived.Test.YtcdnpmpjeeiapaaDoorQDA
import Derived.Test.YtcdnpmpjeeiapaaDoorQBD
import Derived.Test.YtcdnpmpjeeiapaaDoorQPD
set_option linter.unusedSimpArgs false
set_option linter.unusedVariables false
set_option maxRecDepth 10000
namespace Go.Proofs.YtcdnpmpjeeiapaaDoor
open Go.RowKit
def extL (b : List Gr) (c : Ce) (e : Int) : List Gr := if chkS b = 0 then (if chkC c = 0 then (if e = 0 then jk0 b c.g else b) else b) else []
def extE (b : List Gr) (c : Ce) (e : Int) : Int := if chkS b = 0 then (if chkC c = 0 then (if e = 0 then addE b c.g else e) else chkC c) else chkS b
theorem vf8 {b : List Gr} {c : Ce} {e : Int} (hb : chkS b = 0) (h : extE b c e ≠ 0) : extL b c e = b := by
  unfold extE at h
  unfold extL
  rw [if_pos hb] at h ⊢
  split
  · rename_i h1
    rw [if_pos h1] at h
    split
    · rename_i h2
      rw [if_pos h2] at h
      exact qu3 hb h
    · rfl
  · rfl
theorem vr1 {b : List Gr} {c : Ce} {e : Int} (h : extE b c e = 0) : chkS b = 0 ∧ chkC c = 0 ∧ e = 0 ∧ addE b c.g = 0 ∧ extL b c e = jk0 b c.g := by
  unfold extE at h
  unfold extL
  split at h
  · rename_i h0
    split at h
    · rename_i h1
      split at h
      · rename_i h2
        rw [if_pos h0, if_pos h1, if_pos h2]
        exact ⟨h0, h1, h2, h, rfl⟩
      · rename_i h2
        exact absurd h h2
    · rename_i h1
      exact absurd h h1
  · rename_i h0
    exact absurd h h0
theorem vn4 {b : List Gr} {g x : Gr} (h : x ∈ insS b g) : x = g ∨ x ∈ b := by
  unfold insS at h
  rcases List.mem_append.1 h with h1 | h1
  · exact .inr (List.mem_of_mem_take h1)
  · rcases List.mem_cons.1 h1 with h2 | h2
    · exact .inl h2
    · exact .inr (List.mem_of_mem_drop h2)
theorem vk7 {b : List Gr} {g x : Gr} (h : x ∈ jk0 b g) : x = g ∨ x ∈ b := by
  unfold jk0 at h
  split at h
  · split at h
    · split at h
      · exact .inr h
      · split at h
        · exact .inr h
        · exact vn4 h
    · exact .inr h
  · cases h
theorem qm9 {b : List Gr} {c : Ce} {e : Int} (hb : ∀ x ∈ b, x.rt.length = 32) (hc : c.g.rt.length = 32) : ∀ x ∈ extL b c e, x.rt.length = 32 := by
  intro x hx
  unfold extL at hx
  split at hx
  · split at hx
    · split at hx
      · rcases vk7 hx with rfl | h
        · exact hc
        · exact hb _ h
      · exact hb _ hx
    · exact hb _ hx
  · cases hx
theorem jq3 {b : List Gr} {g : Gr} (h : addE b g = 0) (hf : ji0 b g.sv (g.fr - 1) = 0) : (ji6 b g.sv (g.fr - 1)).un = g.fr - 1 := by
  obtain ⟨h1, h2, h3, h4, h5⟩ := ks9 h
  obtain ⟨hl, hg⟩ := jr0 h1
  have hgi := qe6 hg h2 h4
  have hr := jk7 h2
  unfold ji0 at hf
  rw [if_pos h1] at hf
  have hp : hitN b g.sv (g.fr - 1) < b.length := by
    split at hf
    · assumption
    · cases hf
  have hh := kd6 hg g.sv (g.fr - 1) _ hp
  rw [decide_eq_true rfl] at hh
  unfold ji6
  rw [if_pos h1]
  obtain ⟨p1, p2⟩ := ql7 b g
  obtain ⟨j, j1, j2⟩ := qo9 b g hp
  generalize b.getD (hitN b g.sv (g.fr - 1)) gz = x at *
  have hx := hit_iff.1 hh
  rcases (show x.un < g.fr ∨ g.fr ≤ x.un by omega) with hu | hu
  · omega
  · have a1 : hitB ((insS b g).getD j gz) g.sv g.fr = true := by rw [j2, hit_iff]; omega
    have a2 : hitB ((insS b g).getD (posN b g) gz) g.sv g.fr = true := by rw [p2, hit_iff]; omega
    have := qo0 hgi j1 p1 a1 a2
    subst this
    rw [p2] at j2
    subst j2
    omega
noncomputable def verE (root text sig : List UInt8) (n : Int) : Int := @ite _ (badP n sig) (Classical.propDecidable _) 2 (verS root text sig n.toNat)
theorem kn2 (root text sig : List UInt8) (n : Int) (hr : root.length = 32) (ht : text.length ≤ 1000000) : PC (jb8 Tryd.prog) 26 [jg4 root, iD n, strD text, strD sig] (iD (verE root text sig n)) := by
  unfold verE
  by_cases hb : badP n sig
  · rw [if_pos hb]
    exact qr3 root text sig n hb
  · rw [if_neg hb]
    obtain ⟨m, rfl, hm, hl, hi⟩ := vt2 hb
    exact qq5 root text sig m hr hm hl hi ht
noncomputable def bkvE (b : List Gr) (sv at' : Int) (text sig : List UInt8) : Int := if ji0 b sv at' = 0 then verE (ji6 b sv at').rt text sig (ji6 b sv at').hi else ji0 b sv at'
theorem qa4 (b : List Gr) (sv at' : Int) (text sig : List UInt8) (ht : text.length ≤ 1000000) (hb : ∀ x ∈ b, x.rt.length = 32) : PC (jb8 Tryd.prog) 70 [bkD b, iD sv, iD at', strD text, strD sig] (iD (bkvE b sv at' text sig)) := by
  unfold bkvE
  by_cases h : ji0 b sv at' = 0
  · rw [if_pos h]
    exact kx6 b sv at' text sig _ h (kn2 _ text sig _ (hb _ (qg2 h)) ht)
  · rw [if_neg h]
    exact qc8 b sv at' text sig h
theorem ve4 {b : List Gr} {sv at' : Int} {text sig : List UInt8} (h : bkvE b sv at' text sig = 0) : ji0 b sv at' = 0 ∧ verE (ji6 b sv at').rt text sig (ji6 b sv at').hi = 0 := by
  unfold bkvE at h
  by_cases hf : ji0 b sv at' = 0
  · rw [if_pos hf] at h
    exact ⟨hf, h⟩
  · rw [if_neg hf] at h
    exact absurd h hf
noncomputable def cerE (b : List Gr) (c : Ce) : Int := bkvE b c.g.sv (c.g.fr - 1) (jg3 c.g) c.sig
theorem kf7 (b : List Gr) (c : Ce) (hb : ∀ x ∈ b, x.rt.length = 32) (h32 : c.g.rt.length = 32) : PC (jb8 Tryd.prog) 70 [bkD b, iD c.g.sv, iD (c.g.fr - 1), strD (jg3 c.g), strD c.sig] (iD (cerE b c)) := by
  have := jp2 h32
  exact qa4 b _ _ _ _ (by omega) hb
set_option maxHeartbeats 8000000 in
theorem jx4 (c : Ce) (h32 : c.g.rt.length = 32) : PC (jb8 Tryd.prog) 16 [ceD c] (teD (bytC c) (chkC c)) := by
  have kc := js3 c
  have hsp : ∀ l : List UInt8, jc2 (strD l) = true := fun _ => rfl
  unfold bytC
  by_cases hc : chkC c = 0
  · have kt := kb4 c.g h32
    have kl := qw3 [jg3 c.g, c.sig]
    have hE := kh2 hc h32
    have hS : lisS [jg3 c.g, c.sig] = lisB [jg3 c.g, c.sig] := if_pos hE
    have hT : js8 c.g = 0 := if_pos (jn9 hc)
    rw [hT, jj6] at kt
    rw [hS, hE, jj6] at kl
    rw [if_pos hc, hc]
    rw [hc] at kc
    have hgr : grD c.g = grD c.g := rfl
    have hX := and_true; refine jb6 Tryd.func16 rfl Tryd.ntmps16 Tryd.results16 rfl (by simp only [jb5, Nat.reduceAdd, u32D, u8D, iD, bD, strD, ja6, jb1, ja5, ja3, ja4, ja2, ja1, jb2, jb0]; exact rfl) ?_; intro w0 A
    have hX := And.intro jg9 (jc0)
    have hK := And.intro (kc) (And.intro (kt) trivial); (repeat refine ja0 ?_); refine rgx [1] ?_
    (repeat refine ja0 ?_); refine rgx [1, 4] ?_
    (repeat refine ja0 ?_); refine rgx [1, 4, 10] ?_
    (repeat refine ja0 ?_); refine iffx ?_
    (repeat refine ja0 ?_); refine jb3 ?_
    (repeat refine ja0 ?_); refine rgx [1, 5, 6] ?_
    (repeat refine ja0 ?_); refine rgx [1, 5, 6, 19] ?_
    (repeat refine ja0 ?_); refine iffx ?_
    (repeat refine ja0 ?_); refine jb3 ?_
    (repeat refine ja0 ?_); refine jc4 [2, 3] ?_; intro w0 A S0 f0
    iterate 4 ((with_reducible show DR _ _ _ (_ :: _) _); first | (refine cx _ (envG _ _ _ _ _ _) rfl rfl rfl rfl rfl ?_ (hc := by first | exact kc | exact kt))  | (refine sx ?_))
    refine clx (d := teD (lisB [jg3 c.g, c.sig]) 0) (xs := [twD (strD (jg3 c.g)) (strD c.sig)]) (ys := [jj5 [jg3 c.g, c.sig]]) _ (envG _ _ _ _ _ _) (.cons (qf8 hsp) .nil) kl rfl rfl rfl rfl rfl rfl ?_
    (repeat ((with_reducible show DR _ _ _ (_ :: _) _); first | (refine cx _ (envG _ _ _ _ _ _) rfl rfl rfl rfl rfl ?_ (hc := by first | exact kc | exact kt))  | (refine sx ?_))); refine jb4 ?_; refine kl1 ?_
    (repeat refine ja0 ?_); refine ja9 ?_; refine retx ?_; (try dsimp only [outV, ja8])
    exact ja7 rfl
  · rw [if_neg hc]
    generalize chkC c = q at *
    have d0 : decide (q = 0) = false := decide_eq_false hc
    have hX := and_true; refine jb6 Tryd.func16 rfl Tryd.ntmps16 Tryd.results16 rfl (by simp only [jb5, Nat.reduceAdd, u32D, u8D, iD, bD, strD, ja6, jb1, ja5, ja3, ja4, ja2, ja1, jb2, jb0]; exact rfl) ?_; intro w0 A
    have hX := And.intro jg9 (And.intro jc0 (d0))
    have hK := And.intro (kc) trivial; (repeat refine ja0 ?_); refine rgx [1] ?_
    (repeat refine ja0 ?_); refine rgx [1, 4] ?_
    (repeat refine ja0 ?_); refine rgx [1, 4, 10] ?_
    (repeat refine ja0 ?_); refine iftx ?_
    (repeat refine ja0 ?_); refine rgx [2, 3] ?_
    (repeat refine ja0 ?_); refine ja9 ?_; refine retx ?_; (try dsimp only [outV, ja8])
    exact ja7 rfl
def rbD (b : Bool) : D := .cons (bD b) .nil
theorem qa9 (b : Bool) : rbD b = .cons (.v (.bool b)) .nil := rfl
set_option maxHeartbeats 8000000 in
theorem vj9 (s : List UInt8) (b : Bool) : PH (jb8 Tryd.prog) 116 [.ptr 0 0, strD s] [some (.one (rbD b))] (iD (numV s : Int)) [some (.one (rbD (b || !jc3 s)))] := by
  have kg := kl2 s
  obtain ⟨hu1, hu2, hu3⟩ := jm2 (s := s)
  unfold numV jc3
  generalize getS s = r at *
  obtain ⟨x, u, e⟩ := r
  simp only at hu1 hu2 hu3
  unfold gnD at kg
  simp only [jd5] at kg ⊢
  by_cases c0 : e = 0
  · subst c0
    by_cases c1 : u < s.length
    · have d1 : decide ((u : Int) < (s.length : Int)) = true := decide_eq_true (by omega)
      have e1 : (decide ((0 : Int) = 0) && decide (u = s.length)) = false := by simp; omega
      rw [e1, if_neg (by simp), Bool.not_false, Bool.or_true]
      have hX := and_true; refine kg2 Tryd.func116 rfl Tryd.ntmps116 Tryd.results116 rfl (by simp only [jb5, Nat.reduceAdd, u32D, u8D, iD, bD, strD, ja6, jb1, ja5, ja3, ja4, ja2, ja1, jb2, jb0]; exact rfl) ?_; intro w0 A bs0
      have hX := And.intro qa9 (d1)
      have hK := And.intro (kg) trivial; (repeat refine ja0 ?_); refine rgx [0, 1] ?_
      (repeat refine ja0 ?_); refine rgx [0, 1, 5, 6, 7] ?_
      (repeat refine ja0 ?_); refine rggx [0, 5, 21] ?_
      (repeat refine ja0 ?_); refine iftx ?_
      (repeat refine ja0 ?_); refine rgx [] ?_
      (repeat refine ja0 ?_); refine rgx [4] ?_
      (repeat refine ja0 ?_); refine ja9 ?_; refine retx ?_; (try dsimp only [outV, ja8])
      exact FinH.refl
    · have d1 : decide ((u : Int) < (s.length : Int)) = false := decide_eq_false (by omega)
      have e1 : (decide ((0 : Int) = 0) && decide (u = s.length)) = true := by simp; omega
      have e2 : (x : Int) % 18446744073709551616 = (x : Int) := by omega
      rw [e1, if_pos rfl, Bool.not_true, Bool.or_false]
      have hX := and_true; refine kg2 Tryd.func116 rfl Tryd.ntmps116 Tryd.results116 rfl (by simp only [jb5, Nat.reduceAdd, u32D, u8D, iD, bD, strD, ja6, jb1, ja5, ja3, ja4, ja2, ja1, jb2, jb0]; exact rfl) ?_; intro w0 A bs0
      have hX := And.intro qa9 (And.intro d1 (e2))
      have hK := And.intro (kg) trivial; (repeat refine ja0 ?_); refine rgx [0, 1] ?_
      (repeat refine ja0 ?_); refine rgx [0, 1, 5, 6, 7] ?_
      (repeat refine ja0 ?_); refine rggx [0, 5, 21] ?_
      (repeat refine ja0 ?_); refine iffx ?_
      (repeat refine ja0 ?_); refine jb3 ?_
      (repeat refine ja0 ?_); refine rgx [4] ?_
      (repeat refine ja0 ?_); refine ja9 ?_; refine retx ?_; (try dsimp only [outV, ja8])
      exact FinH.refl
  · have d0 : decide (e = 0) = false := decide_eq_false c0
    rw [d0, Bool.false_and, if_neg (by simp), Bool.not_false, Bool.or_true]
    have hX := and_true; refine kg2 Tryd.func116 rfl Tryd.ntmps116 Tryd.results116 rfl (by simp only [jb5, Nat.reduceAdd, u32D, u8D, iD, bD, strD, ja6, jb1, ja5, ja3, ja4, ja2, ja1, jb2, jb0]; exact rfl) ?_; intro w0 A bs0
    have hX := And.intro qa9 (d0)
    have hK := And.intro (kg) trivial; (repeat refine ja0 ?_); refine rgx [0, 1] ?_
    (repeat refine ja0 ?_); refine rgx [0, 1, 5, 6, 7] ?_
    (repeat refine ja0 ?_); refine rggx [0, 5, 21] ?_
    (repeat refine ja0 ?_); refine iftx ?_
    (repeat refine ja0 ?_); refine rgx [] ?_
    (repeat refine ja0 ?_); refine rgx [4] ?_
    (repeat refine ja0 ?_); refine ja9 ?_; refine retx ?_; (try dsimp only [outV, ja8])
    exact FinH.refl
theorem jp4 (s : List UInt8) (b : Bool) : PM (jb8 Tryd.prog) 116 (rbD b) [strD s] (rbD (b || !jc3 s)) (iD (numV s : Int)) := kf3 (vj9 s b) rfl rfl
end Go.Proofs.YtcdnpmpjeeiapaaDoor
