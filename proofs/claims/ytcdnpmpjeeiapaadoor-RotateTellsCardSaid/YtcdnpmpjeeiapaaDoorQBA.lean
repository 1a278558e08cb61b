/- Grants: what is right, what may stand behind another one. (Written by gen_bk.py.) Books are right or not. (Written by gen_bb.py.) -/
import Derived.Test.YtcdnpmpjeeiapaaDoorQPD
import Derived.Test.YtcdnpmpjeeiapaaDoorQPE
import Derived.Test.YtcdnpmpjeeiapaaDoorQPH
set_option linter.unusedSimpArgs false
set_option linter.unusedVariables false
set_option maxRecDepth 10000
namespace Go.Proofs.YtcdnpmpjeeiapaaDoor
open Go.RowKit
structure Gr where
  sv : Int
  fr : Int
  un : Int
  hi : Int
  rt : List UInt8
instance : DecidableEq Gr := fun a b => if h : a.sv = b.sv ∧ a.fr = b.fr ∧ a.un = b.un ∧ a.hi = b.hi ∧ a.rt = b.rt then isTrue (by cases a; cases b; simp_all) else isFalse (fun e => h (by subst e; simp))
def gz : Gr := ⟨0, 0, 0, 0, []⟩
def grD (g : Gr) : D := .cons (iD g.sv) (.cons (iD g.fr) (.cons (iD g.un) (.cons (iD g.hi) (.cons (jg4 g.rt) .nil))))
theorem jc0 (g : Gr) : grD g = .cons (.v (.int .i64 g.sv)) (.cons (.v (.int .i64 g.fr)) (.cons (.v (.int .i64 g.un)) (.cons (.v (.int .i64 g.hi)) (.cons (.arr .u8 32 (fun i => ((g.rt.getD i 0).toNat : Int))) .nil)))) := rfl
def bkD (b : List Gr) : D := .sl b gz grD
theorem jd7 (b : List Gr) : bkD b = .sl b gz grD := rfl
def jd6 (g : Gr) : Bool := decide (0 ≤ g.sv) && decide (g.sv ≤ 63) && decide (0 ≤ g.fr) && decide (g.fr ≤ g.un) && decide (g.un ≤ 1099511627776) && decide (0 ≤ g.hi) && decide (g.hi ≤ 7)
def jh1 (a b : Gr) : Bool := decide (a.sv < b.sv) || (decide (a.sv = b.sv) && decide (a.un < b.fr))

set_option maxHeartbeats 4000000 in
theorem qp1 (g : Gr) : PC (jb8 Tryd.prog) 72 [grD g] (bD (jd6 g)) := by
  by_cases c0 : g.sv < 0
  · skip
    have hdx : decide (g.sv < 0) = true := decide_eq_true c0
    rw [show jd6 g = false by unfold jd6; simp; omega]
    have hX := and_true; refine jb6 Tryd.func72 rfl Tryd.ntmps72 Tryd.results72 rfl (by simp only [jb5, Nat.reduceAdd, u32D, u8D, iD, bD, strD, ja6, jb1, ja5, ja3, ja4, ja2, ja1, jb2, jb0]; exact rfl) ?_; intro w0 A
    have hX := And.intro jc0 (And.intro hdx (and_true))
    (repeat refine ja0 ?_); refine rgx [1] ?_
    (repeat refine ja0 ?_); refine jb9 ?_
    (repeat refine ja0 ?_); refine rggx [1, 3] ?_
    (repeat refine ja0 ?_); refine iftx ?_
    (repeat refine ja0 ?_); refine rgx [2] ?_
    (repeat refine ja0 ?_); refine ja9 ?_; refine retx ?_; (try dsimp only [outV, ja8])
    exact ja7 rfl
  · skip
    by_cases c1 : (63 : Int) < g.sv
    · skip
      have hdx : decide (g.sv < 0) = false ∧ decide ((63 : Int) < g.sv) = true := ⟨decide_eq_false c0, decide_eq_true c1⟩
      rw [show jd6 g = false by unfold jd6; simp; omega]
      have hX := and_true; refine jb6 Tryd.func72 rfl Tryd.ntmps72 Tryd.results72 rfl (by simp only [jb5, Nat.reduceAdd, u32D, u8D, iD, bD, strD, ja6, jb1, ja5, ja3, ja4, ja2, ja1, jb2, jb0]; exact rfl) ?_; intro w0 A
      have hX := And.intro jc0 (And.intro hdx (and_true))
      (repeat refine ja0 ?_); refine rgx [1] ?_
      (repeat refine ja0 ?_); refine jb9 ?_
      (repeat refine ja0 ?_); refine rggx [1, 3] ?_
      (repeat refine ja0 ?_); refine iftx ?_
      (repeat refine ja0 ?_); refine rgx [2] ?_
      (repeat refine ja0 ?_); refine ja9 ?_; refine retx ?_; (try dsimp only [outV, ja8])
      exact ja7 rfl
    · skip
      by_cases c2 : g.hi < 0
      · skip
        have hdx : decide (g.sv < 0) = false ∧ decide ((63 : Int) < g.sv) = false ∧ decide (g.hi < 0) = true := ⟨decide_eq_false c0, decide_eq_false c1, decide_eq_true c2⟩
        rw [show jd6 g = false by unfold jd6; simp; omega]
        have hX := and_true; refine jb6 Tryd.func72 rfl Tryd.ntmps72 Tryd.results72 rfl (by simp only [jb5, Nat.reduceAdd, u32D, u8D, iD, bD, strD, ja6, jb1, ja5, ja3, ja4, ja2, ja1, jb2, jb0]; exact rfl) ?_; intro w0 A
        have hX := And.intro jc0 (And.intro hdx (and_true))
        (repeat refine ja0 ?_); refine rgx [1] ?_
        (repeat refine ja0 ?_); refine jb9 ?_
        (repeat refine ja0 ?_); refine rggx [1, 3] ?_
        (repeat refine ja0 ?_); refine iftx ?_
        (repeat refine ja0 ?_); refine rgx [2] ?_
        (repeat refine ja0 ?_); refine ja9 ?_; refine retx ?_; (try dsimp only [outV, ja8])
        exact ja7 rfl
      · skip
        by_cases c3 : (7 : Int) < g.hi
        · skip
          have hdx : decide (g.sv < 0) = false ∧ decide ((63 : Int) < g.sv) = false ∧ decide (g.hi < 0) = false ∧ decide ((7 : Int) < g.hi) = true := ⟨decide_eq_false c0, decide_eq_false c1, decide_eq_false c2, decide_eq_true c3⟩
          rw [show jd6 g = false by unfold jd6; simp; omega]
          have hX := and_true; refine jb6 Tryd.func72 rfl Tryd.ntmps72 Tryd.results72 rfl (by simp only [jb5, Nat.reduceAdd, u32D, u8D, iD, bD, strD, ja6, jb1, ja5, ja3, ja4, ja2, ja1, jb2, jb0]; exact rfl) ?_; intro w0 A
          have hX := And.intro jc0 (And.intro hdx (and_true))
          (repeat refine ja0 ?_); refine rgx [1] ?_
          (repeat refine ja0 ?_); refine jb9 ?_
          (repeat refine ja0 ?_); refine rggx [1, 3] ?_
          (repeat refine ja0 ?_); refine iftx ?_
          (repeat refine ja0 ?_); refine rgx [2] ?_
          (repeat refine ja0 ?_); refine ja9 ?_; refine retx ?_; (try dsimp only [outV, ja8])
          exact ja7 rfl
        · skip
          by_cases c4 : 0 ≤ g.fr
          · skip
            by_cases c5 : g.fr ≤ g.un
            · skip
              by_cases c6 : g.un ≤ 1099511627776
              · skip
                have hdx : decide (g.sv < 0) = false ∧ decide ((63 : Int) < g.sv) = false ∧ decide (g.hi < 0) = false ∧ decide ((7 : Int) < g.hi) = false ∧ decide (0 ≤ g.fr) = true ∧ decide (g.fr ≤ g.un) = true ∧ decide (g.un ≤ 1099511627776) = true := ⟨decide_eq_false c0, decide_eq_false c1, decide_eq_false c2, decide_eq_false c3, decide_eq_true c4, decide_eq_true c5, decide_eq_true c6⟩
                rw [show jd6 g = true by unfold jd6; simp; omega]
                have hX := and_true; refine jb6 Tryd.func72 rfl Tryd.ntmps72 Tryd.results72 rfl (by simp only [jb5, Nat.reduceAdd, u32D, u8D, iD, bD, strD, ja6, jb1, ja5, ja3, ja4, ja2, ja1, jb2, jb0]; exact rfl) ?_; intro w0 A
                have hX := And.intro jc0 (And.intro hdx (and_true))
                (repeat refine ja0 ?_); refine rgx [1] ?_
                (repeat refine ja0 ?_); refine jb9 ?_
                (repeat refine ja0 ?_); refine rggx [1, 3] ?_
                (repeat refine ja0 ?_); refine iffx ?_
                (repeat refine ja0 ?_); refine jb3 ?_
                (repeat refine ja0 ?_); refine rggx [2] ?_
                (repeat refine ja0 ?_); refine ja9 ?_; refine retx ?_; (try dsimp only [outV, ja8])
                exact ja7 rfl
              · skip
                have hdx : decide (g.sv < 0) = false ∧ decide ((63 : Int) < g.sv) = false ∧ decide (g.hi < 0) = false ∧ decide ((7 : Int) < g.hi) = false ∧ decide (0 ≤ g.fr) = true ∧ decide (g.fr ≤ g.un) = true ∧ decide (g.un ≤ 1099511627776) = false := ⟨decide_eq_false c0, decide_eq_false c1, decide_eq_false c2, decide_eq_false c3, decide_eq_true c4, decide_eq_true c5, decide_eq_false c6⟩
                rw [show jd6 g = false by unfold jd6; simp; omega]
                have hX := and_true; refine jb6 Tryd.func72 rfl Tryd.ntmps72 Tryd.results72 rfl (by simp only [jb5, Nat.reduceAdd, u32D, u8D, iD, bD, strD, ja6, jb1, ja5, ja3, ja4, ja2, ja1, jb2, jb0]; exact rfl) ?_; intro w0 A
                have hX := And.intro jc0 (And.intro hdx (and_true))
                (repeat refine ja0 ?_); refine rgx [1] ?_
                (repeat refine ja0 ?_); refine jb9 ?_
                (repeat refine ja0 ?_); refine rggx [1, 3] ?_
                (repeat refine ja0 ?_); refine iffx ?_
                (repeat refine ja0 ?_); refine jb3 ?_
                (repeat refine ja0 ?_); refine rggx [2] ?_
                (repeat refine ja0 ?_); refine ja9 ?_; refine retx ?_; (try dsimp only [outV, ja8])
                exact ja7 rfl
            · skip
              have hdx : decide (g.sv < 0) = false ∧ decide ((63 : Int) < g.sv) = false ∧ decide (g.hi < 0) = false ∧ decide ((7 : Int) < g.hi) = false ∧ decide (0 ≤ g.fr) = true ∧ decide (g.fr ≤ g.un) = false := ⟨decide_eq_false c0, decide_eq_false c1, decide_eq_false c2, decide_eq_false c3, decide_eq_true c4, decide_eq_false c5⟩
              rw [show jd6 g = false by unfold jd6; simp; omega]
              have hX := and_true; refine jb6 Tryd.func72 rfl Tryd.ntmps72 Tryd.results72 rfl (by simp only [jb5, Nat.reduceAdd, u32D, u8D, iD, bD, strD, ja6, jb1, ja5, ja3, ja4, ja2, ja1, jb2, jb0]; exact rfl) ?_; intro w0 A
              have hX := And.intro jc0 (And.intro hdx (and_true))
              (repeat refine ja0 ?_); refine rgx [1] ?_
              (repeat refine ja0 ?_); refine jb9 ?_
              (repeat refine ja0 ?_); refine rggx [1, 3] ?_
              (repeat refine ja0 ?_); refine iffx ?_
              (repeat refine ja0 ?_); refine jb3 ?_
              (repeat refine ja0 ?_); refine rggx [2] ?_
              (repeat refine ja0 ?_); refine ja9 ?_; refine retx ?_; (try dsimp only [outV, ja8])
              exact ja7 rfl
          · skip
            have hdx : decide (g.sv < 0) = false ∧ decide ((63 : Int) < g.sv) = false ∧ decide (g.hi < 0) = false ∧ decide ((7 : Int) < g.hi) = false ∧ decide (0 ≤ g.fr) = false := ⟨decide_eq_false c0, decide_eq_false c1, decide_eq_false c2, decide_eq_false c3, decide_eq_false c4⟩
            rw [show jd6 g = false by unfold jd6; simp; omega]
            have hX := and_true; refine jb6 Tryd.func72 rfl Tryd.ntmps72 Tryd.results72 rfl (by simp only [jb5, Nat.reduceAdd, u32D, u8D, iD, bD, strD, ja6, jb1, ja5, ja3, ja4, ja2, ja1, jb2, jb0]; exact rfl) ?_; intro w0 A
            have hX := And.intro jc0 (And.intro hdx (and_true))
            (repeat refine ja0 ?_); refine rgx [1] ?_
            (repeat refine ja0 ?_); refine jb9 ?_
            (repeat refine ja0 ?_); refine rggx [1, 3] ?_
            (repeat refine ja0 ?_); refine iffx ?_
            (repeat refine ja0 ?_); refine jb3 ?_
            (repeat refine ja0 ?_); refine rggx [2] ?_
            (repeat refine ja0 ?_); refine ja9 ?_; refine retx ?_; (try dsimp only [outV, ja8])
            exact ja7 rfl
set_option maxHeartbeats 4000000 in
theorem qr5 (g : Gr) : PC (jb8 Tryd.prog) 119 [grD g] (bD (jd6 g)) := by
  by_cases c0 : 0 ≤ g.sv
  · skip
    by_cases c1 : g.sv ≤ 63
    · skip
      by_cases c2 : 0 ≤ g.fr
      · skip
        by_cases c3 : g.fr ≤ g.un
        · skip
          by_cases c4 : g.un ≤ 1099511627776
          · skip
            by_cases c5 : 0 ≤ g.hi
            · skip
              by_cases c6 : g.hi ≤ 7
              · skip
                have hdx : decide (0 ≤ g.sv) = true ∧ decide (g.sv ≤ 63) = true ∧ decide (0 ≤ g.fr) = true ∧ decide (g.fr ≤ g.un) = true ∧ decide (g.un ≤ 1099511627776) = true ∧ decide (0 ≤ g.hi) = true ∧ decide (g.hi ≤ 7) = true := ⟨decide_eq_true c0, decide_eq_true c1, decide_eq_true c2, decide_eq_true c3, decide_eq_true c4, decide_eq_true c5, decide_eq_true c6⟩
                rw [show jd6 g = true by unfold jd6; simp; omega]
                have hX := and_true; refine jb6 Tryd.func119 rfl Tryd.ntmps119 Tryd.results119 rfl (by simp only [jb5, Nat.reduceAdd, u32D, u8D, iD, bD, strD, ja6, jb1, ja5, ja3, ja4, ja2, ja1, jb2, jb0]; exact rfl) ?_; intro w0 A
                have hX := And.intro jc0 (And.intro hdx (and_true))
                (repeat refine ja0 ?_); refine rgx [1] ?_
                (repeat refine ja0 ?_); refine rggx [2] ?_
                (repeat refine ja0 ?_); refine ja9 ?_; refine retx ?_; (try dsimp only [outV, ja8])
                exact ja7 rfl
              · skip
                have hdx : decide (0 ≤ g.sv) = true ∧ decide (g.sv ≤ 63) = true ∧ decide (0 ≤ g.fr) = true ∧ decide (g.fr ≤ g.un) = true ∧ decide (g.un ≤ 1099511627776) = true ∧ decide (0 ≤ g.hi) = true ∧ decide (g.hi ≤ 7) = false := ⟨decide_eq_true c0, decide_eq_true c1, decide_eq_true c2, decide_eq_true c3, decide_eq_true c4, decide_eq_true c5, decide_eq_false c6⟩
                rw [show jd6 g = false by unfold jd6; simp; omega]
                have hX := and_true; refine jb6 Tryd.func119 rfl Tryd.ntmps119 Tryd.results119 rfl (by simp only [jb5, Nat.reduceAdd, u32D, u8D, iD, bD, strD, ja6, jb1, ja5, ja3, ja4, ja2, ja1, jb2, jb0]; exact rfl) ?_; intro w0 A
                have hX := And.intro jc0 (And.intro hdx (and_true))
                (repeat refine ja0 ?_); refine rgx [1] ?_
                (repeat refine ja0 ?_); refine rggx [2] ?_
                (repeat refine ja0 ?_); refine ja9 ?_; refine retx ?_; (try dsimp only [outV, ja8])
                exact ja7 rfl
            · skip
              have hdx : decide (0 ≤ g.sv) = true ∧ decide (g.sv ≤ 63) = true ∧ decide (0 ≤ g.fr) = true ∧ decide (g.fr ≤ g.un) = true ∧ decide (g.un ≤ 1099511627776) = true ∧ decide (0 ≤ g.hi) = false := ⟨decide_eq_true c0, decide_eq_true c1, decide_eq_true c2, decide_eq_true c3, decide_eq_true c4, decide_eq_false c5⟩
              rw [show jd6 g = false by unfold jd6; simp; omega]
              have hX := and_true; refine jb6 Tryd.func119 rfl Tryd.ntmps119 Tryd.results119 rfl (by simp only [jb5, Nat.reduceAdd, u32D, u8D, iD, bD, strD, ja6, jb1, ja5, ja3, ja4, ja2, ja1, jb2, jb0]; exact rfl) ?_; intro w0 A
              have hX := And.intro jc0 (And.intro hdx (and_true))
              (repeat refine ja0 ?_); refine rgx [1] ?_
              (repeat refine ja0 ?_); refine rggx [2] ?_
              (repeat refine ja0 ?_); refine ja9 ?_; refine retx ?_; (try dsimp only [outV, ja8])
              exact ja7 rfl
          · skip
            have hdx : decide (0 ≤ g.sv) = true ∧ decide (g.sv ≤ 63) = true ∧ decide (0 ≤ g.fr) = true ∧ decide (g.fr ≤ g.un) = true ∧ decide (g.un ≤ 1099511627776) = false := ⟨decide_eq_true c0, decide_eq_true c1, decide_eq_true c2, decide_eq_true c3, decide_eq_false c4⟩
            rw [show jd6 g = false by unfold jd6; simp; omega]
            have hX := and_true; refine jb6 Tryd.func119 rfl Tryd.ntmps119 Tryd.results119 rfl (by simp only [jb5, Nat.reduceAdd, u32D, u8D, iD, bD, strD, ja6, jb1, ja5, ja3, ja4, ja2, ja1, jb2, jb0]; exact rfl) ?_; intro w0 A
            have hX := And.intro jc0 (And.intro hdx (and_true))
            (repeat refine ja0 ?_); refine rgx [1] ?_
            (repeat refine ja0 ?_); refine rggx [2] ?_
            (repeat refine ja0 ?_); refine ja9 ?_; refine retx ?_; (try dsimp only [outV, ja8])
            exact ja7 rfl
        · skip
          have hdx : decide (0 ≤ g.sv) = true ∧ decide (g.sv ≤ 63) = true ∧ decide (0 ≤ g.fr) = true ∧ decide (g.fr ≤ g.un) = false := ⟨decide_eq_true c0, decide_eq_true c1, decide_eq_true c2, decide_eq_false c3⟩
          rw [show jd6 g = false by unfold jd6; simp; omega]
          have hX := and_true; refine jb6 Tryd.func119 rfl Tryd.ntmps119 Tryd.results119 rfl (by simp only [jb5, Nat.reduceAdd, u32D, u8D, iD, bD, strD, ja6, jb1, ja5, ja3, ja4, ja2, ja1, jb2, jb0]; exact rfl) ?_; intro w0 A
          have hX := And.intro jc0 (And.intro hdx (and_true))
          (repeat refine ja0 ?_); refine rgx [1] ?_
          (repeat refine ja0 ?_); refine rggx [2] ?_
          (repeat refine ja0 ?_); refine ja9 ?_; refine retx ?_; (try dsimp only [outV, ja8])
          exact ja7 rfl
      · skip
        have hdx : decide (0 ≤ g.sv) = true ∧ decide (g.sv ≤ 63) = true ∧ decide (0 ≤ g.fr) = false := ⟨decide_eq_true c0, decide_eq_true c1, decide_eq_false c2⟩
        rw [show jd6 g = false by unfold jd6; simp; omega]
        have hX := and_true; refine jb6 Tryd.func119 rfl Tryd.ntmps119 Tryd.results119 rfl (by simp only [jb5, Nat.reduceAdd, u32D, u8D, iD, bD, strD, ja6, jb1, ja5, ja3, ja4, ja2, ja1, jb2, jb0]; exact rfl) ?_; intro w0 A
        have hX := And.intro jc0 (And.intro hdx (and_true))
        (repeat refine ja0 ?_); refine rgx [1] ?_
        (repeat refine ja0 ?_); refine rggx [2] ?_
        (repeat refine ja0 ?_); refine ja9 ?_; refine retx ?_; (try dsimp only [outV, ja8])
        exact ja7 rfl
    · skip
      have hdx : decide (0 ≤ g.sv) = true ∧ decide (g.sv ≤ 63) = false := ⟨decide_eq_true c0, decide_eq_false c1⟩
      rw [show jd6 g = false by unfold jd6; simp; omega]
      have hX := and_true; refine jb6 Tryd.func119 rfl Tryd.ntmps119 Tryd.results119 rfl (by simp only [jb5, Nat.reduceAdd, u32D, u8D, iD, bD, strD, ja6, jb1, ja5, ja3, ja4, ja2, ja1, jb2, jb0]; exact rfl) ?_; intro w0 A
      have hX := And.intro jc0 (And.intro hdx (and_true))
      (repeat refine ja0 ?_); refine rgx [1] ?_
      (repeat refine ja0 ?_); refine rggx [2] ?_
      (repeat refine ja0 ?_); refine ja9 ?_; refine retx ?_; (try dsimp only [outV, ja8])
      exact ja7 rfl
  · skip
    have hdx : decide (0 ≤ g.sv) = false := decide_eq_false c0
    rw [show jd6 g = false by unfold jd6; simp; omega]
    have hX := and_true; refine jb6 Tryd.func119 rfl Tryd.ntmps119 Tryd.results119 rfl (by simp only [jb5, Nat.reduceAdd, u32D, u8D, iD, bD, strD, ja6, jb1, ja5, ja3, ja4, ja2, ja1, jb2, jb0]; exact rfl) ?_; intro w0 A
    have hX := And.intro jc0 (And.intro hdx (and_true))
    (repeat refine ja0 ?_); refine rgx [1] ?_
    (repeat refine ja0 ?_); refine rggx [2] ?_
    (repeat refine ja0 ?_); refine ja9 ?_; refine retx ?_; (try dsimp only [outV, ja8])
    exact ja7 rfl
set_option maxHeartbeats 4000000 in
theorem kh7 (a b : Gr) : PC (jb8 Tryd.prog) 73 [grD a, grD b] (bD (jh1 a b)) := by
  by_cases c0 : a.sv < b.sv
  · skip
    have hdx : decide (a.sv < b.sv) = true := decide_eq_true c0
    rw [show jh1 a b = true by unfold jh1; simp; omega]
    have hX := and_true; refine jb6 Tryd.func73 rfl Tryd.ntmps73 Tryd.results73 rfl (by simp only [jb5, Nat.reduceAdd, u32D, u8D, iD, bD, strD, ja6, jb1, ja5, ja3, ja4, ja2, ja1, jb2, jb0]; exact rfl) ?_; intro w0 A
    have hX := And.intro jc0 (And.intro hdx (and_true))
    (repeat refine ja0 ?_); refine rgx [2, 3] ?_
    (repeat refine ja0 ?_); refine rggx [4] ?_
    (repeat refine ja0 ?_); refine ja9 ?_; refine retx ?_; (try dsimp only [outV, ja8])
    exact ja7 rfl
  · skip
    by_cases c1 : a.sv = b.sv
    · skip
      by_cases c2 : a.un < b.fr
      · skip
        have hdx : decide (a.sv < b.sv) = false ∧ decide (a.sv = b.sv) = true ∧ decide (a.un < b.fr) = true := ⟨decide_eq_false c0, decide_eq_true c1, decide_eq_true c2⟩
        rw [show jh1 a b = true by unfold jh1; simp; omega]
        have hX := and_true; refine jb6 Tryd.func73 rfl Tryd.ntmps73 Tryd.results73 rfl (by simp only [jb5, Nat.reduceAdd, u32D, u8D, iD, bD, strD, ja6, jb1, ja5, ja3, ja4, ja2, ja1, jb2, jb0]; exact rfl) ?_; intro w0 A
        have hX := And.intro jc0 (And.intro hdx (and_true))
        (repeat refine ja0 ?_); refine rgx [2, 3] ?_
        (repeat refine ja0 ?_); refine rggx [4] ?_
        (repeat refine ja0 ?_); refine ja9 ?_; refine retx ?_; (try dsimp only [outV, ja8])
        exact ja7 rfl
      · skip
        have hdx : decide (a.sv < b.sv) = false ∧ decide (a.sv = b.sv) = true ∧ decide (a.un < b.fr) = false := ⟨decide_eq_false c0, decide_eq_true c1, decide_eq_false c2⟩
        rw [show jh1 a b = false by unfold jh1; simp; omega]
        have hX := and_true; refine jb6 Tryd.func73 rfl Tryd.ntmps73 Tryd.results73 rfl (by simp only [jb5, Nat.reduceAdd, u32D, u8D, iD, bD, strD, ja6, jb1, ja5, ja3, ja4, ja2, ja1, jb2, jb0]; exact rfl) ?_; intro w0 A
        have hX := And.intro jc0 (And.intro hdx (and_true))
        (repeat refine ja0 ?_); refine rgx [2, 3] ?_
        (repeat refine ja0 ?_); refine rggx [4] ?_
        (repeat refine ja0 ?_); refine ja9 ?_; refine retx ?_; (try dsimp only [outV, ja8])
        exact ja7 rfl
    · skip
      have hdx : decide (a.sv < b.sv) = false ∧ decide (a.sv = b.sv) = false := ⟨decide_eq_false c0, decide_eq_false c1⟩
      rw [show jh1 a b = false by unfold jh1; simp; omega]
      have hX := and_true; refine jb6 Tryd.func73 rfl Tryd.ntmps73 Tryd.results73 rfl (by simp only [jb5, Nat.reduceAdd, u32D, u8D, iD, bD, strD, ja6, jb1, ja5, ja3, ja4, ja2, ja1, jb2, jb0]; exact rfl) ?_; intro w0 A
      have hX := And.intro jc0 (And.intro hdx (and_true))
      (repeat refine ja0 ?_); refine rgx [2, 3] ?_
      (repeat refine ja0 ?_); refine rggx [4] ?_
      (repeat refine ja0 ?_); refine ja9 ?_; refine retx ?_; (try dsimp only [outV, ja8])
      exact ja7 rfl
def jh4 (b : List Gr) : Nat → Bool
  | 0 => true
  | k + 1 => jh4 b k && (jd6 (b.getD k gz) && (decide (k = 0) || jh1 (b.getD (k - 1) gz) (b.getD k gz)))
theorem qg4 {b : List Gr} {k : Nat} (h : jh4 b k = false) : ∀ j, jh4 b (k + j) = false
  | 0 => h
  | j + 1 => by rw [← Nat.add_assoc, jh4, qg4 h j]; rfl
theorem kn6 {b : List Gr} {k : Nat} (hk : k < b.length) (h : (jd6 (b.getD k gz) && (decide (k = 0) || jh1 (b.getD (k - 1) gz) (b.getD k gz))) = false) : jh4 b b.length = false := by
  have h1 : jh4 b (k + 1) = false := by rw [jh4, h, Bool.and_false]
  have := qg4 h1 (b.length - (k + 1))
  rwa [show k + 1 + (b.length - (k + 1)) = b.length by omega] at this
theorem qc5 {b : List Gr} {k : Nat} (h0 : jh4 b k = true) (h : (jd6 (b.getD k gz) && (decide (k = 0) || jh1 (b.getD (k - 1) gz) (b.getD k gz))) = true) : jh4 b (k + 1) = true := by rw [jh4, h0, h]; rfl
def chkS (b : List Gr) : Int := if 256 < b.length then 2 else if jh4 b b.length = true then 0 else 2
set_option maxHeartbeats 8000000 in
theorem js6 (b : List Gr) : PC (jb8 Tryd.prog) 23 [bkD b] (iD (chkS b)) := by
  by_cases hL : 256 < b.length
  · have d0 : decide ((256 : Int) < (b.length : Int)) = true := decide_eq_true (by omega)
    unfold chkS
    rw [if_pos hL]
    have hX := and_true; refine jb6 Tryd.func23 rfl Tryd.ntmps23 Tryd.results23 rfl (by simp only [jb5, Nat.reduceAdd, u32D, u8D, iD, bD, strD, ja6, jb1, ja5, ja3, ja4, ja2, ja1, jb2, jb0]; exact rfl) ?_; intro w0 A
    have hX := And.intro jd7 (And.intro d0 (and_true))
    (repeat refine ja0 ?_); refine rgx [0] ?_
    (repeat refine ja0 ?_); refine rgx [0, 7] ?_
    (repeat refine ja0 ?_); refine iftx ?_
    (repeat refine ja0 ?_); refine rgx [2] ?_
    (repeat refine ja0 ?_); refine ja9 ?_; refine retx ?_; (try dsimp only [outV, ja8])
    exact ja7 rfl
  · have d0 : decide ((256 : Int) < (b.length : Int)) = false := decide_eq_false (by omega)
    unfold chkS
    rw [if_neg hL]
    have hX := and_true; refine jb6 Tryd.func23 rfl Tryd.ntmps23 Tryd.results23 rfl (by simp only [jb5, Nat.reduceAdd, u32D, u8D, iD, bD, strD, ja6, jb1, ja5, ja3, ja4, ja2, ja1, jb2, jb0]; exact rfl) ?_; intro w0 A
    have hX := And.intro jd7 (And.intro d0 (and_true))
    (repeat refine ja0 ?_); refine rgx [0] ?_
    (repeat refine ja0 ?_); refine rgx [0, 7] ?_
    (repeat refine ja0 ?_); refine iffx ?_
    (repeat refine ja0 ?_); refine jb3 ?_
    (repeat refine ja0 ?_); refine rgx [0, 8, 9, 10] ?_
    (repeat refine ja0 ?_); refine jb9 ?_
    (repeat refine ja0 ?_); refine jf4 (fun m _ st => ∃ k, k + m = b.length ∧ jh4 b k = true ∧ st = mk [(0, bkD b), (8, bkD b), (9, iD (b.length : Int)), (10, iD (k : Int))] []) b.length ⟨_, WeakX.refl _, 0, by omega, rfl, by rfl⟩ ?_
    rintro m _ _ ⟨k, hk, hgk, rfl⟩
    have hX := And.intro jd7 (and_true)
    (repeat refine ja0 ?_); refine rgx [0, 8, 9, 10, 11] ?_
    (repeat refine ja0 ?_); refine ifx ?_ ?_
    · intro hc; (try simp only [hcs, ne_eq] at hc)
      have hkn : k < b.length := by omega
      have hst := kn6 hkn
      have hgo := qc5 hgk (b := b) (k := k)
      clear hgk
      obtain ⟨x, hx⟩ : ∃ x, b.getD k gz = x := ⟨_, rfl⟩
      obtain ⟨y, hy⟩ : ∃ y, b.getD (k - 1) gz = y := ⟨_, rfl⟩
      rw [hx, hy] at hst hgo
      (repeat refine ja0 ?_); refine jb3 ?_
      (repeat refine ja0 ?_); refine jb9 ?_
      have hX := And.intro jd7 (And.intro jc0 (hx))
      (repeat refine ja0 ?_); refine rgx [0, 3, 4, 8, 9, 10] ?_
      have kr := qp1 x
      have ka := kh7 y x
      cases hr : jd6 x with
      | false =>
        rw [hr] at hst kr
        have hX := And.intro jd7 (And.intro jc0 (Bool.not_false))
        have hK := And.intro (kr) (And.intro (ka) trivial); (repeat refine ja0 ?_); refine rqgx [0, 8, 9, 10, 31] ?_
        (repeat refine ja0 ?_); refine iftx ?_
        (repeat refine ja0 ?_); refine rgx [2] ?_
        rw [if_neg (by rw [hst (by rfl)]; decide)]
        (repeat refine ja0 ?_); refine ja9 ?_; refine retx ?_; (try dsimp only [outV, ja8])
        exact ja7 rfl
      | true =>
        rw [hr] at hst hgo kr
        by_cases h0 : k = 0
        · have dk : decide ((0 : Int) < (k : Int)) = false := decide_eq_false (by omega)
          replace hgo := hgo (by simp [h0])
          have hX := And.intro jd7 (And.intro jc0 (And.intro dk (Bool.not_true)))
          have hK := And.intro (kr) (And.intro (ka) trivial); (repeat refine ja0 ?_); refine rqgx [0, 8, 9, 10, 31] ?_
          (repeat refine ja0 ?_); refine iffx ?_
          (repeat refine ja0 ?_); refine jb3 ?_
          (repeat refine ja0 ?_); refine rgx [0, 8, 9, 10] ?_
          refine ⟨_, m - 1, WeakX.take 0 rfl rfl rfl, by omega, k + 1, by omega, hgo, ?_⟩
          first | rfl | simp [iD, bkD]
        · have dk : decide ((0 : Int) < (k : Int)) = true := decide_eq_true (by omega)
          have hkm : ((k : Int) - 1).toNat = k - 1 := by omega
          have d00 : decide (k = 0) = false := decide_eq_false h0
          cases ha : jh1 y x with
          | false =>
            rw [ha, d00] at hst
            rw [ha] at ka
            have hX := And.intro jd7 (And.intro jc0 (And.intro dk (And.intro hkm (And.intro hy (And.intro Bool.not_true (Bool.not_false))))))
            have hK := And.intro (kr) (And.intro (ka) trivial); (repeat refine ja0 ?_); refine rqgx [0, 8, 9, 10, 31] ?_
            (repeat refine ja0 ?_); refine iftx ?_
            (repeat refine ja0 ?_); refine rgx [2] ?_
            rw [if_neg (by rw [hst (by rfl)]; decide)]
            (repeat refine ja0 ?_); refine ja9 ?_; refine retx ?_; (try dsimp only [outV, ja8])
            exact ja7 rfl
          | true =>
            rw [ha] at ka
            replace hgo := hgo (by rw [ha, Bool.or_true]; rfl)
            have hX := And.intro jd7 (And.intro jc0 (And.intro dk (And.intro hkm (And.intro hy (And.intro Bool.not_true (Bool.not_false))))))
            have hK := And.intro (kr) (And.intro (ka) trivial); (repeat refine ja0 ?_); refine rqgx [0, 8, 9, 10, 31] ?_
            (repeat refine ja0 ?_); refine iffx ?_
            (repeat refine ja0 ?_); refine jb3 ?_
            (repeat refine ja0 ?_); refine rgx [0, 8, 9, 10] ?_
            refine ⟨_, m - 1, WeakX.take 0 rfl rfl rfl, by omega, k + 1, by omega, hgo, ?_⟩
            first | rfl | simp [iD, bkD]
    · intro hc; (try simp only [hcs, ne_eq] at hc)
      obtain rfl : k = b.length := by omega
      rw [if_pos hgk]
      (repeat refine ja0 ?_); refine je4 ?_
      (repeat refine ja0 ?_); refine rgx [2] ?_
      (repeat refine ja0 ?_); refine ja9 ?_; refine retx ?_; (try dsimp only [outV, ja8])
      exact ja7 rfl
set_option maxHeartbeats 8000000 in
theorem qp6 (b : List Gr) : PC (jb8 Tryd.prog) 69 [bkD b] (iD (chkS b)) := by
  by_cases hL : 256 < b.length
  · have d0 : decide ((256 : Int) < (b.length : Int)) = true := decide_eq_true (by omega)
    unfold chkS
    rw [if_pos hL]
    have hX := and_true; refine jb6 Tryd.func69 rfl Tryd.ntmps69 Tryd.results69 rfl (by simp only [jb5, Nat.reduceAdd, u32D, u8D, iD, bD, strD, ja6, jb1, ja5, ja3, ja4, ja2, ja1, jb2, jb0]; exact rfl) ?_; intro w0 A
    have hX := And.intro jd7 (And.intro d0 (and_true))
    (repeat refine ja0 ?_); refine rgx [0] ?_
    (repeat refine ja0 ?_); refine rgx [0, 7] ?_
    (repeat refine ja0 ?_); refine iftx ?_
    (repeat refine ja0 ?_); refine rgx [2] ?_
    (repeat refine ja0 ?_); refine ja9 ?_; refine retx ?_; (try dsimp only [outV, ja8])
    exact ja7 rfl
  · have d0 : decide ((256 : Int) < (b.length : Int)) = false := decide_eq_false (by omega)
    unfold chkS
    rw [if_neg hL]
    have hX := and_true; refine jb6 Tryd.func69 rfl Tryd.ntmps69 Tryd.results69 rfl (by simp only [jb5, Nat.reduceAdd, u32D, u8D, iD, bD, strD, ja6, jb1, ja5, ja3, ja4, ja2, ja1, jb2, jb0]; exact rfl) ?_; intro w0 A
    have hX := And.intro jd7 (And.intro d0 (and_true))
    (repeat refine ja0 ?_); refine rgx [0] ?_
    (repeat refine ja0 ?_); refine rgx [0, 7] ?_
    (repeat refine ja0 ?_); refine iffx ?_
    (repeat refine ja0 ?_); refine jb3 ?_
    (repeat refine ja0 ?_); refine rgx [0, 8, 9, 10] ?_
    (repeat refine ja0 ?_); refine jb9 ?_
    (repeat refine ja0 ?_); refine jf4 (fun m _ st => ∃ k, k + m = b.length ∧ jh4 b k = true ∧ st = mk [(0, bkD b), (8, bkD b), (9, iD (b.length : Int)), (10, iD (k : Int))] []) b.length ⟨_, WeakX.refl _, 0, by omega, rfl, by rfl⟩ ?_
    rintro m _ _ ⟨k, hk, hgk, rfl⟩
    have hX := And.intro jd7 (and_true)
    (repeat refine ja0 ?_); refine rgx [0, 8, 9, 10, 11] ?_
    (repeat refine ja0 ?_); refine ifx ?_ ?_
    · intro hc; (try simp only [hcs, ne_eq] at hc)
      have hkn : k < b.length := by omega
      have hst := kn6 hkn
      have hgo := qc5 hgk (b := b) (k := k)
      clear hgk
      obtain ⟨x, hx⟩ : ∃ x, b.getD k gz = x := ⟨_, rfl⟩
      obtain ⟨y, hy⟩ : ∃ y, b.getD (k - 1) gz = y := ⟨_, rfl⟩
      rw [hx, hy] at hst hgo
      (repeat refine ja0 ?_); refine jb3 ?_
      (repeat refine ja0 ?_); refine jb9 ?_
      have hX := And.intro jd7 (And.intro jc0 (hx))
      (repeat refine ja0 ?_); refine rgx [0, 3, 4, 8, 9, 10] ?_
      have kr := qr5 x
      cases hr : jd6 x with
      | false =>
        rw [hr] at hst kr
        have hX := And.intro jd7 (And.intro jc0 (Bool.not_false))
        have hK := And.intro (kr) trivial; (repeat refine ja0 ?_); refine rgx [0, 3, 4, 8, 9, 10, 17] ?_
        (repeat refine ja0 ?_); refine iftx ?_
        (repeat refine ja0 ?_); refine rgx [2] ?_
        rw [if_neg (by rw [hst (by rfl)]; decide)]
        (repeat refine ja0 ?_); refine ja9 ?_; refine retx ?_; (try dsimp only [outV, ja8])
        exact ja7 rfl
      | true =>
        rw [hr] at hst hgo kr
        have hX := And.intro jd7 (And.intro jc0 (Bool.not_true))
        have hK := And.intro (kr) trivial; (repeat refine ja0 ?_); refine rgx [0, 3, 4, 8, 9, 10, 17] ?_
        (repeat refine ja0 ?_); refine iffx ?_
        (repeat refine ja0 ?_); refine jb3 ?_
        by_cases h0 : k = 0
        · have dk : decide ((0 : Int) < (k : Int)) = false := decide_eq_false (by omega)
          replace hgo := hgo (by simp [h0])
          have hX := And.intro jd7 (And.intro jc0 (dk))
          (repeat refine ja0 ?_); refine rqgx [0, 8, 9, 10, 52] ?_
          (repeat refine ja0 ?_); refine iffx ?_
          (repeat refine ja0 ?_); refine jb3 ?_
          (repeat refine ja0 ?_); refine rgx [0, 8, 9, 10] ?_
          refine ⟨_, m - 1, WeakX.take 0 rfl rfl rfl, by omega, k + 1, by omega, hgo, ?_⟩
          first | rfl | simp [iD, bkD]
        · have dk : decide ((0 : Int) < (k : Int)) = true := decide_eq_true (by omega)
          have hkm : ((k : Int) - 1).toNat = k - 1 := by omega
          have d00 : decide (k = 0) = false := decide_eq_false h0
          by_cases h1 : x.sv < y.sv
          · have ha : jh1 y x = false := by unfold jh1; simp; omega
            have d1 : decide (x.sv < y.sv) = true := decide_eq_true h1
            rw [ha, d00] at hst
            have hX := And.intro jd7 (And.intro jc0 (And.intro dk (And.intro hkm (And.intro hy (d1)))))
            (repeat refine ja0 ?_); refine rqgx [0, 8, 9, 10, 52] ?_
            (repeat refine ja0 ?_); refine iftx ?_
            (repeat refine ja0 ?_); refine rgx [2] ?_
            rw [if_neg (by rw [hst (by rfl)]; decide)]
            (repeat refine ja0 ?_); refine ja9 ?_; refine retx ?_; (try dsimp only [outV, ja8])
            exact ja7 rfl
          · have d1 : decide (x.sv < y.sv) = false := decide_eq_false h1
            by_cases h2 : x.sv = y.sv
            · have d2 : decide (x.sv = y.sv) = true := decide_eq_true h2
              by_cases h3 : x.fr ≤ y.un
              · have ha : jh1 y x = false := by unfold jh1; simp; omega
                have d3 : decide (x.fr ≤ y.un) = true := decide_eq_true h3
                rw [ha, d00] at hst
                have hX := And.intro jd7 (And.intro jc0 (And.intro dk (And.intro hkm (And.intro hy (And.intro d1 (And.intro d2 (d3)))))))
                (repeat refine ja0 ?_); refine rqgx [0, 8, 9, 10, 52] ?_
                (repeat refine ja0 ?_); refine iftx ?_
                (repeat refine ja0 ?_); refine rgx [2] ?_
                rw [if_neg (by rw [hst (by rfl)]; decide)]
                (repeat refine ja0 ?_); refine ja9 ?_; refine retx ?_; (try dsimp only [outV, ja8])
                exact ja7 rfl
              · have ha : jh1 y x = true := by unfold jh1; simp; omega
                have d3 : decide (x.fr ≤ y.un) = false := decide_eq_false h3
                replace hgo := hgo (by rw [ha, Bool.or_true]; rfl)
                have hX := And.intro jd7 (And.intro jc0 (And.intro dk (And.intro hkm (And.intro hy (And.intro d1 (And.intro d2 (d3)))))))
                (repeat refine ja0 ?_); refine rqgx [0, 8, 9, 10, 52] ?_
                (repeat refine ja0 ?_); refine iffx ?_
                (repeat refine ja0 ?_); refine jb3 ?_
                (repeat refine ja0 ?_); refine rgx [0, 8, 9, 10] ?_
                refine ⟨_, m - 1, WeakX.take 0 rfl rfl rfl, by omega, k + 1, by omega, hgo, ?_⟩
                first | rfl | simp [iD, bkD]
            · have d2 : decide (x.sv = y.sv) = false := decide_eq_false h2
              have ha : jh1 y x = true := by unfold jh1; simp; omega
              replace hgo := hgo (by rw [ha, Bool.or_true]; rfl)
              have hX := And.intro jd7 (And.intro jc0 (And.intro dk (And.intro hkm (And.intro hy (And.intro d1 (d2))))))
              (repeat refine ja0 ?_); refine rqgx [0, 8, 9, 10, 52] ?_
              (repeat refine ja0 ?_); refine iffx ?_
              (repeat refine ja0 ?_); refine jb3 ?_
              (repeat refine ja0 ?_); refine rgx [0, 8, 9, 10] ?_
              refine ⟨_, m - 1, WeakX.take 0 rfl rfl rfl, by omega, k + 1, by omega, hgo, ?_⟩
              first | rfl | simp [iD, bkD]
    · intro hc; (try simp only [hcs, ne_eq] at hc)
      obtain rfl : k = b.length := by omega
      rw [if_pos hgk]
      (repeat refine ja0 ?_); refine je4 ?_
      (repeat refine ja0 ?_); refine rgx [2] ?_
      (repeat refine ja0 ?_); refine ja9 ?_; refine retx ?_; (try dsimp only [outV, ja8])
      exact ja7 rfl
end Go.Proofs.YtcdnpmpjeeiapaaDoor
