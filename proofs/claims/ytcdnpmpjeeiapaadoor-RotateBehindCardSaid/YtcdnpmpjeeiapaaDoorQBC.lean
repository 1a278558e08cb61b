/- A grant of a server at a time is found. (Written by gen_bh.py.) A book's servers. (Written by gen_bi.py.) -/
import Derived.Test.YtcdnpmpjeeiapaaDoorQPD
import Derived.Test.YtcdnpmpjeeiapaaDoorQBB
import Derived.Test.YtcdnpmpjeeiapaaDoorQPH
set_option linter.unusedSimpArgs false
set_option linter.unusedVariables false
set_option maxRecDepth 10000
namespace Go.Proofs.YtcdnpmpjeeiapaaDoor
open Go.RowKit
def hitB (g : Gr) (sv at' : Int) : Bool := decide (g.sv = sv) && (decide (g.fr ≤ at') && decide (at' ≤ g.un))
def hitN (b : List Gr) (sv at' : Int) : Nat := b.findIdx (fun g => hitB g sv at')
theorem vj0 (b : List Gr) (sv at' : Int) : hitN b sv at' ≤ b.length := List.findIdx_le_length
theorem ku5 (b : List Gr) (sv at' : Int) : ∀ k, k < b.length → k ≤ hitN b sv at' → hitB (b.getD k gz) sv at' = decide (k = hitN b sv at') := fun k hk hp => by
  rcases Nat.lt_or_eq_of_le hp with h1 | h1
  · rw [decide_eq_false (by omega)]
    have := List.not_of_lt_findIdx (p := fun g => hitB g sv at') (xs := b) h1
    rw [List.getD_eq_getElem?_getD, List.getElem?_eq_getElem hk]
    simpa using this
  · rw [decide_eq_true h1]
    have h2 := List.findIdx_getElem (p := fun g => hitB g sv at') (xs := b) (w := by unfold hitN at h1; omega)
    rw [List.getD_eq_getElem?_getD, List.getElem?_eq_getElem hk]
    unfold hitN at h1
    subst h1
    exact h2
def ji6 (b : List Gr) (sv at' : Int) : Gr := if chkS b = 0 then b.getD (hitN b sv at') gz else gz
def ji0 (b : List Gr) (sv at' : Int) : Int := if chkS b = 0 then (if hitN b sv at' < b.length then 0 else 3) else 2
def geD (g : Gr) (e : Int) : D := .tup (.cons (grD g) (.cons (iD e) .nil))
theorem kn4 (g : Gr) (e : Int) : geD g e = .tup (.cons (grD g) (.cons (iD e) .nil)) := rfl
def clD (sv at' : Int) : D := .fn 75 (jh5 [.ip (iD sv), .ip (iD at')])
theorem qc0 (sv at' : Int) : clD sv at' = .fn 75 (.cons (.ip (.v (.int .i64 sv))) (.cons (.ip (.v (.int .i64 at'))) .nil)) := rfl
set_option maxHeartbeats 8000000 in
theorem vv3 (g : Gr) (sv at' : Int) : PC (jb8 Tryd.prog) 75 [grD g, .ip (iD sv), .ip (iD at')] (bD (hitB g sv at')) := by
  by_cases c0 : g.sv = sv
  · have fc0 : decide (g.sv = sv) = true := decide_eq_true c0
    by_cases c1 : g.fr ≤ at'
    · have fc1 : decide (g.fr ≤ at') = true := decide_eq_true c1
      by_cases c2 : at' ≤ g.un
      · have fc2 : decide (at' ≤ g.un) = true := decide_eq_true c2
        rw [show hitB g sv at' = true by simp only [hitB, fc0, fc1, fc2, Bool.true_and, Bool.false_and, Bool.and_true, Bool.and_false]]
        have hX := and_true; refine jb6 Tryd.func75 rfl Tryd.ntmps75 Tryd.results75 rfl (by simp only [jb5, Nat.reduceAdd, u32D, u8D, iD, bD, strD, ja6, jb1, ja5, ja3, ja4, ja2, ja1, jb2, jb0]; exact rfl) ?_; intro w0 A
        have hX := And.intro jc0 (And.intro fc0 (And.intro fc1 (fc2)))
        (repeat refine ja0 ?_); refine rgx [1, 2, 3] ?_
        (repeat refine ja0 ?_); refine rggx [4] ?_
        (repeat refine ja0 ?_); refine ja9 ?_; refine retx ?_; (try dsimp only [outV, ja8])
        exact ja7 rfl
      · have fc2 : decide (at' ≤ g.un) = false := decide_eq_false c2
        rw [show hitB g sv at' = false by simp only [hitB, fc0, fc1, fc2, Bool.true_and, Bool.false_and, Bool.and_true, Bool.and_false]]
        have hX := and_true; refine jb6 Tryd.func75 rfl Tryd.ntmps75 Tryd.results75 rfl (by simp only [jb5, Nat.reduceAdd, u32D, u8D, iD, bD, strD, ja6, jb1, ja5, ja3, ja4, ja2, ja1, jb2, jb0]; exact rfl) ?_; intro w0 A
        have hX := And.intro jc0 (And.intro fc0 (And.intro fc1 (fc2)))
        (repeat refine ja0 ?_); refine rgx [1, 2, 3] ?_
        (repeat refine ja0 ?_); refine rggx [4] ?_
        (repeat refine ja0 ?_); refine ja9 ?_; refine retx ?_; (try dsimp only [outV, ja8])
        exact ja7 rfl
    · have fc1 : decide (g.fr ≤ at') = false := decide_eq_false c1
      rw [show hitB g sv at' = false by simp only [hitB, fc0, fc1, Bool.true_and, Bool.false_and, Bool.and_true, Bool.and_false]]
      have hX := and_true; refine jb6 Tryd.func75 rfl Tryd.ntmps75 Tryd.results75 rfl (by simp only [jb5, Nat.reduceAdd, u32D, u8D, iD, bD, strD, ja6, jb1, ja5, ja3, ja4, ja2, ja1, jb2, jb0]; exact rfl) ?_; intro w0 A
      have hX := And.intro jc0 (And.intro fc0 (fc1))
      (repeat refine ja0 ?_); refine rgx [1, 2, 3] ?_
      (repeat refine ja0 ?_); refine rggx [4] ?_
      (repeat refine ja0 ?_); refine ja9 ?_; refine retx ?_; (try dsimp only [outV, ja8])
      exact ja7 rfl
  · have fc0 : decide (g.sv = sv) = false := decide_eq_false c0
    rw [show hitB g sv at' = false by simp only [hitB, fc0, Bool.true_and, Bool.false_and, Bool.and_true, Bool.and_false]]
    have hX := and_true; refine jb6 Tryd.func75 rfl Tryd.ntmps75 Tryd.results75 rfl (by simp only [jb5, Nat.reduceAdd, u32D, u8D, iD, bD, strD, ja6, jb1, ja5, ja3, ja4, ja2, ja1, jb2, jb0]; exact rfl) ?_; intro w0 A
    have hX := And.intro jc0 (fc0)
    (repeat refine ja0 ?_); refine rgx [1, 2, 3] ?_
    (repeat refine ja0 ?_); refine rggx [4] ?_
    (repeat refine ja0 ?_); refine ja9 ?_; refine retx ?_; (try dsimp only [outV, ja8])
    exact ja7 rfl
def idxI (b : List Gr) (sv at' : Int) : Int := if hitN b sv at' < b.length then (hitN b sv at' : Int) else -1
set_option maxHeartbeats 8000000 in
theorem vv4 (b : List Gr) (sv at' : Int) (hb : b.length ≤ 256) : PC (jb8 Tryd.prog) 74 [bkD b, clD sv at'] (iD (idxI b sv at')) := by
  have hle := vj0 b sv at'
  have hP := ku5 b sv at'
  unfold idxI
  generalize hitN b sv at' = p at *
  have hX := and_true; refine jb6 Tryd.func74 rfl Tryd.ntmps74 Tryd.results74 rfl (by simp only [jb5, Nat.reduceAdd, u32D, u8D, iD, bD, strD, ja6, jb1, ja5, ja3, ja4, ja2, ja1, jb2, jb0]; exact rfl) ?_; intro w0 A
  have hX := And.intro jd7 (And.intro qc0 (and_true))
  (repeat refine ja0 ?_); refine rgx [0, 1] ?_
  (repeat refine ja0 ?_); refine rgx [0, 1, 7, 8] ?_
  (repeat refine ja0 ?_); refine jb9 ?_
  (repeat refine ja0 ?_); refine jf4 (fun m _ st => ∃ k, k + m = b.length ∧ k ≤ p ∧ st = mk [(0, bkD b), (1, clD sv at'), (7, iD (b.length : Int)), (8, iD (k : Int))] []) b.length ⟨_, WeakX.refl _, 0, by omega, by omega, rfl⟩ ?_
  rintro m _ _ ⟨k, hk, hkp, rfl⟩
  have hX := And.intro jd7 (And.intro qc0 (and_true))
  (repeat refine ja0 ?_); refine rgx [0, 1, 7, 8, 9] ?_
  (repeat refine ja0 ?_); refine ifx ?_ ?_
  · intro hc; (try simp only [hcs, ne_eq] at hc)
    have hkn : k < b.length := by omega
    have hh := hP k hkn hkp
    obtain ⟨x, hx⟩ : ∃ x, b.getD k gz = x := ⟨_, rfl⟩
    have kh := vv3 x sv at'
    rw [hx] at hh
    rw [hh] at kh
    clear hP
    (repeat refine ja0 ?_); refine jb3 ?_
    (repeat refine ja0 ?_); refine jb9 ?_
    have hX := And.intro jd7 (And.intro qc0 (hx))
    (repeat refine ja0 ?_); refine rgx [0, 1, 5, 7, 8] ?_
    (repeat refine ja0 ?_); refine jc4 [0, 1, 5, 7, 8, 16] ?_; intro w0 A S0 f0
    iterate 5 ((with_reducible show DR _ _ _ (_ :: _) _); first | (refine cx _ (envG _ _ _ _ _ _) rfl rfl rfl rfl rfl ?_ (hc := by first | fail))  | (refine sx ?_))
    refine cfx [.ip (iD sv), .ip (iD at')] _ (envG _ _ _ _ _ _) rfl rfl rfl rfl rfl kh rfl rfl ?_
    refine jb4 ?_; refine kl1 ?_
    by_cases hkq : k = p
    · rw [decide_eq_true hkq]
      subst hkq
      rw [if_pos hkn]
      (repeat refine ja0 ?_); refine iftx ?_
      (repeat refine ja0 ?_); refine rgx [4] ?_
      (repeat refine ja0 ?_); refine ja9 ?_; refine retx ?_; (try dsimp only [outV, ja8])
      exact ja7 rfl
    · rw [decide_eq_false hkq]
      (repeat refine ja0 ?_); refine iffx ?_
      (repeat refine ja0 ?_); refine jb3 ?_
      (repeat refine ja0 ?_); refine rgx [0, 1, 7, 8] ?_
      refine ⟨_, m - 1, WeakX.take 4 rfl rfl rfl, by omega, k + 1, by omega, by omega, ?_⟩
      first | rfl | simp [iD, bkD, clD]
  · intro hc; (try simp only [hcs, ne_eq] at hc)
    obtain rfl : p = b.length := by omega
    rw [if_neg (Nat.lt_irrefl _)]
    (repeat refine ja0 ?_); refine je4 ?_
    (repeat refine ja0 ?_); refine rgx [4] ?_
    (repeat refine ja0 ?_); refine ja9 ?_; refine retx ?_; (try dsimp only [outV, ja8])
    exact ja7 rfl
theorem va0 (b : List Gr) (sv at' : Int) : decide (idxI b sv at' < 0) = !decide (hitN b sv at' < b.length) := by
  unfold idxI
  by_cases h : hitN b sv at' < b.length
  · rw [if_pos h, decide_eq_true h]; exact decide_eq_false (by omega)
  · rw [if_neg h, decide_eq_false h]; rfl
set_option maxHeartbeats 8000000 in
theorem km9 (b : List Gr) (sv at' : Int) : PC (jb8 Tryd.prog) 25 [bkD b, iD sv, iD at'] (geD (ji6 b sv at') (ji0 b sv at')) := by
  have kc := js6 b
  unfold ji6 ji0
  by_cases hc : chkS b = 0
  · have hn := va0 b sv at'
    obtain ⟨hlb, _⟩ := jr0 hc
    have kx := vv4 b sv at' hlb
    have hid : hitN b sv at' < b.length → idxI b sv at' = (hitN b sv at' : Int) := fun h => if_pos h
    rw [if_pos hc, if_pos hc]
    rw [hc] at kc
    generalize idxI b sv at' = i at *
    generalize hitN b sv at' = p at *
    have hX := and_true; refine jb6 Tryd.func25 rfl Tryd.ntmps25 Tryd.results25 rfl (by simp only [jb5, Nat.reduceAdd, u32D, u8D, iD, bD, strD, ja6, jb1, ja5, ja3, ja4, ja2, ja1, jb2, jb0]; exact rfl) ?_; intro w0 A
    have hX := And.intro jd7 (and_true)
    have hK := And.intro (kc) trivial; (repeat refine ja0 ?_); refine rgx [0, 4, 5, 6] ?_
    (repeat refine ja0 ?_); refine rgx [0, 4, 5, 6, 8] ?_
    (repeat refine ja0 ?_); refine rgx [0, 4, 5, 6, 8, 13] ?_
    (repeat refine ja0 ?_); refine iffx ?_
    (repeat refine ja0 ?_); refine jb3 ?_
    (repeat refine ja0 ?_); refine jc4 [0, 6, 9] ?_; intro w0 A S0 f0
    iterate 2 ((with_reducible show DR _ _ _ (_ :: _) _); first | (refine cx _ (envG _ _ _ _ _ _) rfl rfl rfl rfl rfl ?_ (hc := by first | exact kc))  | (refine sx ?_))
    refine clx (d := iD i) (ys := [bkD b, clD sv at']) _ (envG _ _ _ _ _ _) (.cons (LeP.refl rfl).le (.cons (vu8 (cs := [.ptr 0 0, .ptr 1 0]) (cs' := [.ip (iD sv), .ip (iD at')]) rfl rfl (.cons (qc2 rfl rfl) (.cons (qc2 rfl rfl) .nil))) .nil)) kx rfl rfl rfl rfl rfl rfl ?_
    (repeat ((with_reducible show DR _ _ _ (_ :: _) _); first | (refine cx _ (envG _ _ _ _ _ _) rfl rfl rfl rfl rfl ?_ (hc := by first | exact kc))  | (refine sx ?_))); refine jb4 ?_; refine kl1 ?_
    by_cases hp : p < b.length
    · obtain rfl := hid hp
      rw [decide_eq_true hp] at hn
      rw [if_pos hp]
      obtain ⟨x, hx⟩ : ∃ x, b.getD p gz = x := ⟨_, rfl⟩
      rw [hx]
      have hX := And.intro jd7 (And.intro hn (And.intro hx (Bool.not_true)))
      (repeat refine ja0 ?_); refine rgx [0, 6, 9, 20] ?_
      (repeat refine ja0 ?_); refine iffx ?_
      (repeat refine ja0 ?_); refine jb3 ?_
      (repeat refine ja0 ?_); refine rgx [6, 7] ?_
      (repeat refine ja0 ?_); refine ja9 ?_; refine retx ?_; (try dsimp only [outV, ja8])
      exact ja7 rfl
    · rw [decide_eq_false hp] at hn
      rw [if_neg hp, show b.getD p gz = gz by rw [List.getD_eq_getElem?_getD, List.getElem?_eq_none (by omega)]; rfl]
      have hX := And.intro jd7 (And.intro hn (Bool.not_false))
      (repeat refine ja0 ?_); refine rgx [0, 6, 9, 20] ?_
      (repeat refine ja0 ?_); refine iftx ?_
      (repeat refine ja0 ?_); refine jc4 [6, 7] ?_; intro w0 A S0 f0; refine qx _ rfl rfl rfl ?_ (hp := by intro d hd; simp only [List.mem_cons, List.not_mem_nil, or_false] at hd; rcases hd with rfl | rfl | rfl | rfl | rfl <;> first | trivial | exact ⟨rfl, rfl⟩); (repeat ((with_reducible show DR _ _ _ (_ :: _) _); first | (refine cx _ (envG _ _ _ _ _ _) rfl rfl rfl rfl rfl ?_ (hc := by first | exact kc))  | (refine sx ?_))); refine jb4 ?_; refine kl1 ?_
      (repeat refine ja0 ?_); refine ja9 ?_; refine retx ?_; (try dsimp only [outV, ja8])
      exact ja7 rfl
  · rw [kh9 hc] at kc
    rw [if_neg hc, if_neg hc]
    have hX := and_true; refine jb6 Tryd.func25 rfl Tryd.ntmps25 Tryd.results25 rfl (by simp only [jb5, Nat.reduceAdd, u32D, u8D, iD, bD, strD, ja6, jb1, ja5, ja3, ja4, ja2, ja1, jb2, jb0]; exact rfl) ?_; intro w0 A
    have hX := And.intro jd7 (and_true)
    have hK := And.intro (kc) trivial; (repeat refine ja0 ?_); refine rgx [0, 4, 5, 6] ?_
    (repeat refine ja0 ?_); refine rgx [0, 4, 5, 6, 8] ?_
    (repeat refine ja0 ?_); refine rgx [0, 4, 5, 6, 8, 13] ?_
    (repeat refine ja0 ?_); refine iftx ?_
    (repeat refine ja0 ?_); refine jc4 [6, 7] ?_; intro w0 A S0 f0; refine qx _ rfl rfl rfl ?_ (hp := by intro d hd; simp only [List.mem_cons, List.not_mem_nil, or_false] at hd; rcases hd with rfl | rfl | rfl | rfl | rfl <;> first | trivial | exact ⟨rfl, rfl⟩); (repeat ((with_reducible show DR _ _ _ (_ :: _) _); first | (refine cx _ (envG _ _ _ _ _ _) rfl rfl rfl rfl rfl ?_ (hc := by first | exact kc))  | (refine sx ?_))); refine jb4 ?_; refine kl1 ?_
    (repeat refine ja0 ?_); refine ja9 ?_; refine retx ?_; (try dsimp only [outV, ja8])
    exact ja7 rfl

def isD (l : List Int) : D := .sl l 0 iD
theorem qe7 (l : List Int) : isD l = .sl l 0 (fun z => D.v (.int .i64 z)) := rfl



end Go.Proofs.YtcdnpmpjeeiapaaDoor
