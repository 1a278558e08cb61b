/- The document's: what of a grant is signed, and a cert's bytes. -/
import Derived.Test.YtcdnpmpjeeiapaaDoorQPD
import Derived.Test.YtcdnpmpjeeiapaaDoorQDA
set_option linter.unusedSimpArgs false
set_option linter.unusedVariables false
set_option maxRecDepth 10000
namespace Go.Proofs.YtcdnpmpjeeiapaaDoor
open Go.RowKit
def l4 : List Nat := List.range 4
def qp9 (g : Gr) (i : Nat) : D := [iD g.sv, iD g.fr, iD g.un, iD g.hi].getD i .dead
def qq4 (g : Gr) : D := .sl l4 0 (qp9 g)
theorem ve7 (g : Gr) : qq4 g = .sl l4 0 (qp9 g) := rfl
theorem vs7 : l4.length = 4 := rfl
theorem ve1 {g : Gr} (h : jd6 g = true) {k : Nat} (hk : k < 4) : qp9 g (l4.getD k 0) = .v (.int .i64 ((numG g k : Nat) : Int)) := by
  have hr := jk7 h
  rcases (show k = 0 ∨ k = 1 ∨ k = 2 ∨ k = 3 by omega) with rfl | rfl | rfl | rfl
  · show D.v (.int .i64 g.sv) = .v (.int .i64 ((g.sv.toNat : Nat) : Int)); rw [Int.toNat_of_nonneg (by omega)]
  · show D.v (.int .i64 g.fr) = .v (.int .i64 ((g.fr.toNat : Nat) : Int)); rw [Int.toNat_of_nonneg (by omega)]
  · show D.v (.int .i64 g.un) = .v (.int .i64 ((g.un.toNat : Nat) : Int)); rw [Int.toNat_of_nonneg (by omega)]
  · show D.v (.int .i64 g.hi) = .v (.int .i64 ((g.hi.toNat : Nat) : Int)); rw [Int.toNat_of_nonneg (by omega)]
set_option maxHeartbeats 16000000 in
theorem kp1 (g : Gr) (h32 : g.rt.length = 32) : PC (jb8 Tryd.prog) 15 [grD g] (teD (jg3 g) (js8 g)) := by
  have kc := js9 ⟨g, []⟩
  rw [qz2] at kc
  unfold jg3 js8
  by_cases hc : chkC ⟨g, []⟩ = 0
  · obtain ⟨_, _, hg⟩ := jr8 hc
    have hg : jd6 g = true := hg
    rw [if_pos hc, if_pos hc]
    rw [hc] at kc
    have hX := and_true; refine jb6 Tryd.func15 rfl Tryd.ntmps15 Tryd.results15 rfl (by simp only [jb5, Nat.reduceAdd, u32D, u8D, iD, bD, strD, ja6, jb1, ja5, ja3, ja4, ja2, ja1, jb2, jb0]; exact rfl) ?_; intro w0 A
    have hX := And.intro jc0 (and_true)
    have hK := And.intro (kc) trivial; (repeat refine ja0 ?_); refine rgx [1] ?_
    (repeat refine ja0 ?_); refine rgx [1, 12] ?_
    (repeat refine ja0 ?_); refine iffx ?_
    (repeat refine ja0 ?_); refine jb3 ?_
    (repeat refine ja0 ?_); refine rgx [1, 4] (l' := [(1, .ptr 0 0), (4, .own 1 1 9 1)]) (h' := [some (.one (grD g)), some (.row (((jg8 g).take 1).map strD) 9 1)]) ?_ ?_
    rotate_left
    · intro w0 A S0 f0
      refine ex rfl (jw3 rfl rfl rfl rfl rfl) ?_
      (repeat ((with_reducible show DR _ _ _ (_ :: _) _); first | (refine cx _ (envG _ _ _ _ _ _) rfl rfl rfl rfl rfl ?_ (hc := by first | exact kc))  | (refine sx ?_))); refine jb4 ?_; refine kl1 ?_
      rfl
    (repeat refine ja0 ?_); refine rgx [1, 4, 22, 23, 24] (l' := [(1, .ptr 0 0), (4, .own 1 1 9 1), (22, qq4 g), (23, iD 4), (24, iD 0)]) (h' := [some (.one (grD g)), some (.row (((jg8 g).take 1).map strD) 9 1)]) ?_ ?_
    rotate_left
    · intro w0 A S0 f0
      (repeat ((with_reducible show DR _ _ _ (_ :: _) _); first | (refine cx _ (envG _ _ _ _ _ _) rfl rfl rfl rfl rfl ?_ (hc := by first | exact kc))  | (refine sx ?_))); refine jb4 ?_; refine kl1 ?_
      rfl
    (repeat refine ja0 ?_); refine jb9 ?_
    (repeat refine ja0 ?_); refine jf4 (fun m _ st => ∃ k, k + m = 4 ∧ st = mk [(1, .ptr 0 0), (4, .own 1 (k + 1) 9 1), (22, qq4 g), (23, iD 4), (24, iD (k : Int))] [some (.one (grD g)), some (.row (((jg8 g).take (k + 1)).map strD) 9 1)]) 4 ⟨_, WeakX.refl _, 0, by omega, rfl⟩ ?_
    rintro m _ _ ⟨k, hk, rfl⟩
    have hX := and_true
    (repeat refine ja0 ?_); refine rgx [1, 4, 22, 23, 24, 25] ?_
    (repeat refine ja0 ?_); refine ifx ?_ ?_
    · intro hc; (try simp only [hcs, ne_eq] at hc)
      have hk4 : k < 4 := by omega
      have hx := ve1 hg hk4
      have hxl := ql5 hg hk4
      have hst := ko6 g hk4
      have hln : ((jg8 g).take (k + 1)).length = k + 1 := by rw [List.length_take]; show min (k + 1) 6 = _; omega
      generalize numG g k = x at *
      have kn := ke1 x (by omega)
      have h1 : numS x = varN x := if_neg (by omega)
      have h2 : numE x = 0 := if_neg (by omega)
      rw [h1, h2, jj6] at kn
      have hnc : nc (D.v (.int .i64 (x : Int))) = 1 := rfl
      have hxm : (x : Int) % 18446744073709551616 = (x : Int) := by omega
      generalize (jg8 g).take (k + 1) = ts at *
      (repeat refine ja0 ?_); refine jb3 ?_
      (repeat refine ja0 ?_); refine jb9 ?_
      have hX := And.intro ve7 (And.intro hx (And.intro hnc (vs7)))
      (repeat refine ja0 ?_); refine rgx [1, 4, 6, 22, 23, 24] ?_
      have hX := And.intro hxm (and_true)
      have hK := And.intro (kn) trivial; (repeat refine ja0 ?_); refine rgx [1, 4, 7, 22, 23, 24] ?_
      have hX := And.intro hln (and_true)
      (repeat refine ja0 ?_); refine rgx [1, 4, 22, 23, 24] ?_
      (repeat refine ja0 ?_); refine rgx [1, 4, 22, 23, 24] ?_
      refine ⟨_, m - 1, WeakX.refl _, by omega, k + 1, by omega, ?_⟩
      rw [hst]
      simp only [List.map_append]
      first | rfl | simp [iD]
    · intro hc; (try simp only [hcs, ne_eq] at hc)
      obtain rfl : k = 4 := by omega
      have kl := kw6 (jg8 g)
      have hE := ke0 hg h32
      have hS : lisS (jg8 g) = lisB (jg8 g) := if_pos hE
      rw [hS, hE, jj6] at kl
      (repeat refine ja0 ?_); refine je4 ?_
      obtain ⟨ts, hts⟩ : ∃ ts, ts = (jg8 g).take (4 + 1) := ⟨_, rfl⟩
      have hln : ts.length = 5 := by rw [hts]; rfl
      have hal : jg8 g = ts ++ [g.rt] := by rw [hts]; rfl
      rw [← hts]
      have hX := And.intro jc0 (hln)
      (repeat refine ja0 ?_); refine jc4 [2, 3] ?_; intro w0 A S0 f0
      iterate 3 ((with_reducible show DR _ _ _ (_ :: _) _); first | (refine cx _ (envG _ _ _ _ _ _) rfl rfl rfl rfl rfl ?_ (hc := by first | exact kc))  | (refine sx ?_))
      refine cvs (L := g.rt) (d := grD g) 42 rfl rfl rfl rfl rfl rfl h32.symm (Nat.le_refl 36) (fun i hi => qj9 h32 hi) ?_
      iterate 2 ((with_reducible show DR _ _ _ (_ :: _) _); first | (refine cx _ (envG _ _ _ _ _ _) rfl rfl rfl rfl rfl ?_ (hc := by first | exact kc))  | (refine sx ?_))
      refine clx (d := teD (lisB (jg8 g)) 0) (xs := [.own 1 6 9 1]) (ys := [jj5 (jg8 g)]) _ (envG _ _ _ _ _ _) (.cons (qm7 (ts := jg8 g) (by rw [hal, List.map_append]; rfl) rfl) .nil) kl rfl rfl rfl rfl rfl rfl ?_
      (repeat ((with_reducible show DR _ _ _ (_ :: _) _); first | (refine cx _ (envG _ _ _ _ _ _) rfl rfl rfl rfl rfl ?_ (hc := by first | exact kc))  | (refine sx ?_))); refine jb4 ?_; refine kl1 ?_
      (repeat refine ja0 ?_); refine ja9 ?_; refine retx ?_; (try dsimp only [outV, ja8])
      exact ja7 rfl
  · rw [kl8 hc] at kc
    rw [if_neg hc, if_neg hc]
    have hX := and_true; refine jb6 Tryd.func15 rfl Tryd.ntmps15 Tryd.results15 rfl (by simp only [jb5, Nat.reduceAdd, u32D, u8D, iD, bD, strD, ja6, jb1, ja5, ja3, ja4, ja2, ja1, jb2, jb0]; exact rfl) ?_; intro w0 A
    have hX := And.intro jc0 (and_true)
    have hK := And.intro (kc) trivial; (repeat refine ja0 ?_); refine rgx [1] ?_
    (repeat refine ja0 ?_); refine rgx [1, 12] ?_
    (repeat refine ja0 ?_); refine iftx ?_
    (repeat refine ja0 ?_); refine rgx [2, 3] ?_
    (repeat refine ja0 ?_); refine ja9 ?_; refine retx ?_; (try dsimp only [outV, ja8])
    exact ja7 rfl
set_option maxHeartbeats 8000000 in
theorem qi6 (c : Ce) (h32 : c.g.rt.length = 32) : PC (jb8 Tryd.prog) 17 [ceD c] (teD (bytC c) (chkC c)) := by
  have kc := js9 c
  have hsp : ∀ l : List UInt8, jc2 (strD l) = true := fun _ => rfl
  unfold bytC
  by_cases hc : chkC c = 0
  · have kt := kp1 c.g h32
    have kl := kw6 [jg3 c.g, c.sig]
    have hE := kh2 hc h32
    have hS : lisS [jg3 c.g, c.sig] = lisB [jg3 c.g, c.sig] := if_pos hE
    have hT : js8 c.g = 0 := if_pos (jn9 hc)
    rw [hT, jj6] at kt
    rw [hS, hE, jj6] at kl
    rw [if_pos hc, hc]
    rw [hc] at kc
    have hX := and_true; refine jb6 Tryd.func17 rfl Tryd.ntmps17 Tryd.results17 rfl (by simp only [jb5, Nat.reduceAdd, u32D, u8D, iD, bD, strD, ja6, jb1, ja5, ja3, ja4, ja2, ja1, jb2, jb0]; exact rfl) ?_; intro w0 A
    have hX := And.intro jg9 (jc0)
    have hK := And.intro (kc) (And.intro (kt) trivial); (repeat refine ja0 ?_); refine rgx [1] ?_
    (repeat refine ja0 ?_); refine rgx [1, 8] ?_
    (repeat refine ja0 ?_); refine iffx ?_
    (repeat refine ja0 ?_); refine jb3 ?_
    (repeat refine ja0 ?_); refine rgx [1, 4] ?_
    (repeat refine ja0 ?_); refine jc4 [2, 3] ?_; intro w0 A S0 f0
    iterate 4 ((with_reducible show DR _ _ _ (_ :: _) _); first | (refine cx _ (envG _ _ _ _ _ _) rfl rfl rfl rfl rfl ?_ (hc := by first | exact kc | exact kt))  | (refine sx ?_))
    refine clx (d := teD (lisB [jg3 c.g, c.sig]) 0) (xs := [twD (strD (jg3 c.g)) (strD c.sig)]) (ys := [jj5 [jg3 c.g, c.sig]]) _ (envG _ _ _ _ _ _) (.cons (qf8 hsp) .nil) kl rfl rfl rfl rfl rfl rfl ?_
    (repeat ((with_reducible show DR _ _ _ (_ :: _) _); first | (refine cx _ (envG _ _ _ _ _ _) rfl rfl rfl rfl rfl ?_ (hc := by first | exact kc | exact kt))  | (refine sx ?_))); refine jb4 ?_; refine kl1 ?_
    (repeat refine ja0 ?_); refine ja9 ?_; refine retx ?_; (try dsimp only [outV, ja8])
    exact ja7 rfl
  · have h2 := kl8 hc
    rw [if_neg hc, h2]
    rw [h2] at kc
    have hX := and_true; refine jb6 Tryd.func17 rfl Tryd.ntmps17 Tryd.results17 rfl (by simp only [jb5, Nat.reduceAdd, u32D, u8D, iD, bD, strD, ja6, jb1, ja5, ja3, ja4, ja2, ja1, jb2, jb0]; exact rfl) ?_; intro w0 A
    have hX := And.intro jg9 (jc0)
    have hK := And.intro (kc) trivial; (repeat refine ja0 ?_); refine rgx [1] ?_
    (repeat refine ja0 ?_); refine rgx [1, 8] ?_
    (repeat refine ja0 ?_); refine iftx ?_
    (repeat refine ja0 ?_); refine rgx [2, 3] ?_
    (repeat refine ja0 ?_); refine ja9 ?_; refine retx ?_; (try dsimp only [outV, ja8])
    exact ja7 rfl
end Go.Proofs.YtcdnpmpjeeiapaaDoor
