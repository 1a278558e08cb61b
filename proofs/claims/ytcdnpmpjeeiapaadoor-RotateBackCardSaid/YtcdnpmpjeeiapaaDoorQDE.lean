/- A cert is signed; several certs come to a book. -/
import Derived.Test.YtcdnpmpjeeiapaaDoorQPD
import Derived.Test.YtcdnpmpjeeiapaaDoorQDD
import Derived.Test.YtcdnpmpjeeiapaaDoorQPR
set_option linter.unusedSimpArgs false
set_option linter.unusedVariables false
set_option maxRecDepth 10000
namespace Go.Proofs.YtcdnpmpjeeiapaaDoor
open Go.RowKit
section
variable (s : List UInt8) (h n n' : Int) (lv : List (List UInt8)) (rt : List UInt8) (g : Gr)
set_option maxHeartbeats 8000000 in
theorem kt8 (sig : List UInt8) (h32 : g.rt.length = 32) (hc : chkC ⟨g, []⟩ = 0) (pm : PM (jb8 Tryd.prog) 112 (jh9 s h n lv rt) [strD (jg3 g)] (jh9 s h n' lv rt) (.tup (.cons (strD sig) (.cons (iD 0) .nil)))) :
    PH (jb8 Tryd.prog) 58 [.ptr 0 0, grD g] [some (.one (jh9 s h n lv rt))] (cpD (⟨g, sig⟩, 0)) [some (.one (jh9 s h n' lv rt))] := by
  have kt := kb4 g h32
  have hT : js8 g = 0 := if_pos hc
  rw [hT, jj6] at kt
  have hX := and_true; refine kg2 Tryd.func58 rfl Tryd.ntmps58 Tryd.results58 rfl (by simp only [jb5, Nat.reduceAdd, u32D, u8D, iD, bD, strD, ja6, jb1, ja5, ja3, ja4, ja2, ja1, jb2, jb0]; exact rfl) ?_; intro w0 A bs0
  have hX := And.intro jc0 (and_true)
  (repeat refine ja0 ?_); refine jc4 [0, 3, 4] ?_; intro w0 A S0 f0; (repeat ((with_reducible show DR _ _ _ (_ :: _) _); first | (refine cx _ (envG _ _ _ _ _ _) rfl rfl rfl rfl rfl ?_ (hc := by first | exact kt)) | (refine ex rfl (jg2 (envG _ _ _ _ _ _) rfl rfl rfl (hc := by first | exact pm)) ?_) | (refine sx ?_))); refine jb4 ?_; refine kl1 ?_
  (repeat refine ja0 ?_); refine jc4 [0, 3, 4, 6, 7] ?_; intro w0 A S0 f0; (repeat ((with_reducible show DR _ _ _ (_ :: _) _); first | (refine cx _ (envG _ _ _ _ _ _) rfl rfl rfl rfl rfl ?_ (hc := by first | exact kt)) | (refine ex rfl (jg2 (envG _ _ _ _ _ _) rfl rfl rfl (hc := by first | exact pm)) ?_) | (refine sx ?_))); refine jb4 ?_; refine kl1 ?_
  (repeat refine ja0 ?_); refine jc4 [0, 3, 4, 6, 7, 15] ?_; intro w0 A S0 f0; (repeat ((with_reducible show DR _ _ _ (_ :: _) _); first | (refine cx _ (envG _ _ _ _ _ _) rfl rfl rfl rfl rfl ?_ (hc := by first | exact kt)) | (refine ex rfl (jg2 (envG _ _ _ _ _ _) rfl rfl rfl (hc := by first | exact pm)) ?_) | (refine sx ?_))); refine jb4 ?_; refine kl1 ?_
  (repeat refine ja0 ?_); refine iffx ?_
  (repeat refine ja0 ?_); refine jb3 ?_
  (repeat refine ja0 ?_); refine jc4 [3, 4, 7, 8] ?_; intro w0 A S0 f0; (repeat ((with_reducible show DR _ _ _ (_ :: _) _); first | (refine cx _ (envG _ _ _ _ _ _) rfl rfl rfl rfl rfl ?_ (hc := by first | exact kt)) | (refine ex rfl (jg2 (envG _ _ _ _ _ _) rfl rfl rfl (hc := by first | exact pm)) ?_) | (refine sx ?_))); refine jb4 ?_; refine kl1 ?_
  (repeat refine ja0 ?_); refine jc4 [3, 4, 7, 8, 25] ?_; intro w0 A S0 f0; (repeat ((with_reducible show DR _ _ _ (_ :: _) _); first | (refine cx _ (envG _ _ _ _ _ _) rfl rfl rfl rfl rfl ?_ (hc := by first | exact kt)) | (refine ex rfl (jg2 (envG _ _ _ _ _ _) rfl rfl rfl (hc := by first | exact pm)) ?_) | (refine sx ?_))); refine jb4 ?_; refine kl1 ?_
  (repeat refine ja0 ?_); refine iffx ?_
  (repeat refine ja0 ?_); refine jb3 ?_
  (repeat refine ja0 ?_); refine jc4 [4, 5] ?_; intro w0 A S0 f0; (repeat ((with_reducible show DR _ _ _ (_ :: _) _); first | (refine cx _ (envG _ _ _ _ _ _) rfl rfl rfl rfl rfl ?_ (hc := by first | exact kt)) | (refine ex rfl (jg2 (envG _ _ _ _ _ _) rfl rfl rfl (hc := by first | exact pm)) ?_) | (refine sx ?_))); refine jb4 ?_; refine kl1 ?_
  (repeat refine ja0 ?_); refine ja9 ?_; refine retx ?_; (try dsimp only [outV, ja8])
  exact FinH.of_weak rfl (WeakX.takeP 1 rfl rfl rfl rfl)
end
def runB (V : List Gr → Ce → Int) (b : List Gr) (l : List Ce) : Nat → List Gr
  | 0 => b
  | k + 1 => if extE (runB V b l k) (l.getD k cez) (V (runB V b l k) (l.getD k cez)) = 0 then extL (runB V b l k) (l.getD k cez) (V (runB V b l k) (l.getD k cez)) else runB V b l k
def runA (V : List Gr → Ce → Int) (b : List Gr) (l : List Ce) : Nat → List Int
  | 0 => []
  | k + 1 => runA V b l k ++ [extE (runB V b l k) (l.getD k cez) (V (runB V b l k) (l.getD k cez))]
theorem qb5 (V : List Gr → Ce → Int) (b : List Gr) (l : List Ce) : ∀ k, (runA V b l k).length = k
  | 0 => rfl
  | k + 1 => by simp [runA, qb5 V b l k]
theorem kl6 {l : List Ce} (hl : ∀ c ∈ l, c.g.rt.length = 32) {k : Nat} (hk : k < l.length) : (l.getD k cez).g.rt.length = 32 := by
  rw [List.getD_eq_getElem?_getD, List.getElem?_eq_getElem hk]
  exact hl _ (List.getElem_mem hk)
theorem qb6 {V : List Gr → Ce → Int} {b : List Gr} {l : List Ce} (hb : ∀ x ∈ b, x.rt.length = 32) (hl : ∀ c ∈ l, c.g.rt.length = 32) : ∀ k, k ≤ l.length → ∀ x ∈ runB V b l k, x.rt.length = 32
  | 0, _ => hb
  | k + 1, hk => by
    intro x hx
    have ih := qb6 (V := V) hb hl k (by omega)
    unfold runB at hx
    split at hx
    · exact qm9 ih (kl6 hl (by omega)) x hx
    · exact ih x hx
def ruD (b : List Gr) (a : List Int) : D := .tup (.cons (bkD b) (.cons (isD a) .nil))
theorem vq6 {h : List (Option Bk)} {l n T : Nat} {b : List Gr} {a : List Int} (hl : h[l]? = some (some (.row (a.map iD) T 1))) (hn : n = a.length) : Fin h (.tup (.cons (bkD b) (.cons (.own l n T 1) .nil))) (ruD b a) := by
  subst hn
  exact jp5 (.cons rfl rfl (ja7 rfl) (.cons rfl rfl (jl0 (es := (a.map iD).take a.length) (p := a.length ≤ (a.map iD).length) rfl (by simp only [elems, hl]) (by simp) (List.take_of_length_le (by simp)) (fun _ => rfl)) .nil))
set_option maxHeartbeats 16000000 in
theorem vv5 (V : List Gr → Ce → Int) (hV : ∀ (b : List Gr) (c : Ce), (∀ x ∈ b, x.rt.length = 32) → c.g.rt.length = 32 → PC (jb8 Tryd.prog) 22 [bkD b, ceD c] (beD (extL b c (V b c)) (extE b c (V b c))))
    (b : List Gr) (l : List Ce) (hb : ∀ x ∈ b, x.rt.length = 32) (hl : ∀ c ∈ l, c.g.rt.length = 32) (hbl : b.length ≤ 2199023255552) (hll : l.length ≤ 1000000) :
    PC (jb8 Tryd.prog) 59 [bkD b, csD l] (ruD (runB V b l l.length) (runA V b l l.length)) := by
  have hX := and_true; refine jb6 Tryd.func59 rfl Tryd.ntmps59 Tryd.results59 rfl (by simp only [jb5, Nat.reduceAdd, u32D, u8D, iD, bD, strD, ja6, jb1, ja5, ja3, ja4, ja2, ja1, jb2, jb0]; exact rfl) ?_; intro w0 A
  have hX := And.intro jd7 (and_true)
  (repeat refine ja0 ?_); refine jc4 [0, 1] ?_; intro w0 A S0 f0; (repeat ((with_reducible show DR _ _ _ (_ :: _) _); first | (refine cx _ (envG _ _ _ _ _ _) rfl rfl rfl rfl rfl ?_ (hc := by first | fail)) | (refine ex rfl (jh7 rfl rfl rfl) ?_) | (refine sx ?_))); refine jb4 ?_; refine kl1 ?_
  (repeat refine ja0 ?_); refine jc4 [1, 6] ?_; intro w0 A S0 f0
  iterate 1 ((with_reducible show DR _ _ _ (_ :: _) _); first | (refine cx _ (envG _ _ _ _ _ _) rfl rfl rfl rfl rfl ?_ (hc := by first | fail)) | (refine ex rfl (jh7 rfl rfl rfl) ?_) | (refine sx ?_))
  refine ex rfl (jl7 (hs := rfl) (es := b.map grD) rfl rfl ⟨⟨_, _, _, rfl⟩, rfl, ⟨_, rfl, rfl⟩, rfl, by decide⟩ (hpure := fun d hd => jw7 hd) (hb := by rw [List.length_map]; show b.length * 64 ≤ _; omega)) ?_
  (repeat ((with_reducible show DR _ _ _ (_ :: _) _); first | (refine cx _ (envG _ _ _ _ _ _) rfl rfl rfl rfl rfl ?_ (hc := by first | fail)) | (refine ex rfl (jh7 rfl rfl rfl) ?_) | (refine sx ?_))); refine jb4 ?_; refine kl1 ?_
  rw [List.length_map]
  (repeat refine ja0 ?_); refine kv0 0 b gz grD (l' := [(1, csD l), (6, bkD b)]) (h' := [none]) (by rfl) (by rfl) (by simp only [List.map_cons, List.map_nil, frzR, ju1, jd7, List.take_of_length_le, Nat.le_refl, reduceIte]) (by rfl) ?_
  have hX := And.intro jd7 (ju1)
  (repeat refine ja0 ?_); refine jc4 [1, 6, 7] ?_; intro w0 A S0 f0; (repeat ((with_reducible show DR _ _ _ (_ :: _) _); first | (refine cx _ (envG _ _ _ _ _ _) rfl rfl rfl rfl rfl ?_ (hc := by first | fail)) | (refine ex rfl (jh7 rfl rfl rfl) ?_) | (refine sx ?_))); refine jb4 ?_; refine kl1 ?_
  (repeat refine ja0 ?_); refine jc4 [6, 7, 14, 15, 16] ?_; intro w0 A S0 f0; (repeat ((with_reducible show DR _ _ _ (_ :: _) _); first | (refine cx _ (envG _ _ _ _ _ _) rfl rfl rfl rfl rfl ?_ (hc := by first | fail)) | (refine ex rfl (jh7 rfl rfl rfl) ?_) | (refine sx ?_))); refine jb4 ?_; refine kl1 ?_
  (repeat refine ja0 ?_); refine jb9 ?_
  refine jk4 (fun _ _ _ _ => Weak.nil_own 7 29 1 rfl) ?_
  refine jf4 (fun m _ st => ∃ k, k + m = l.length ∧ st = mk [(6, bkD (runB V b l k)), (7, .own 1 (runA V b l k).length 29 1), (14, csD l), (15, iD (l.length : Int)), (16, iD (k : Int))] [none, some (.row ((runA V b l k).map iD) 29 1)]) l.length ⟨_, WeakX.pick [6, 7, 14, 15, 16], 0, by omega, rfl⟩ ?_
  rintro m _ _ ⟨k, hk, rfl⟩
  have hX := And.intro ju1 (and_true)
  (repeat refine ja0 ?_); refine jc4 [6, 7, 14, 15, 16, 17] ?_; intro w0 A S0 f0; (repeat ((with_reducible show DR _ _ _ (_ :: _) _); first | (refine cx _ (envG _ _ _ _ _ _) rfl rfl rfl rfl rfl ?_ (hc := by first | fail)) | (refine ex rfl (jh7 rfl rfl rfl) ?_) | (refine sx ?_))); refine jb4 ?_; refine kl1 ?_
  (repeat refine ja0 ?_); refine ifx ?_ ?_
  · intro hc; (try simp only [hcs, ne_eq] at hc)
    have hkn : k < l.length := by omega
    have kx := hV (runB V b l k) (l.getD k cez) (qb6 hb hl k (by omega)) (kl6 hl hkn)
    have hln := qb5 V b l k
    have eB : runB V b l (k + 1) = if extE (runB V b l k) (l.getD k cez) (V (runB V b l k) (l.getD k cez)) = 0 then extL (runB V b l k) (l.getD k cez) (V (runB V b l k) (l.getD k cez)) else runB V b l k := rfl
    have eA : runA V b l (k + 1) = runA V b l k ++ [extE (runB V b l k) (l.getD k cez) (V (runB V b l k) (l.getD k cez))] := rfl
    unfold beD at kx
    obtain ⟨c, hx⟩ : ∃ c, l.getD k cez = c := ⟨_, rfl⟩
    rw [hx] at kx eB eA
    generalize extL (runB V b l k) c (V (runB V b l k) c) = y at *
    generalize extE (runB V b l k) c (V (runB V b l k) c) = e at *
    generalize runB V b l k = B at *
    generalize runA V b l k = R at *
    (repeat refine ja0 ?_); refine jb3 ?_
    (repeat refine ja0 ?_); refine jb9 ?_
    have hX := And.intro ju1 (And.intro jg9 (And.intro jc0 (hx)))
    (repeat refine ja0 ?_); refine jc4 [6, 7, 9, 14, 15, 16] ?_; intro w0 A S0 f0; (repeat ((with_reducible show DR _ _ _ (_ :: _) _); first | (refine cx _ (envG _ _ _ _ _ _) rfl rfl rfl rfl rfl ?_ (hc := by first | exact kx)) | (refine ex rfl (jh7 rfl rfl rfl) ?_) | (refine sx ?_))); refine jb4 ?_; refine kl1 ?_
    (repeat refine ja0 ?_); refine jc4 [6, 7, 10, 11, 14, 15, 16] ?_; intro w0 A S0 f0; (repeat ((with_reducible show DR _ _ _ (_ :: _) _); first | (refine cx _ (envG _ _ _ _ _ _) rfl rfl rfl rfl rfl ?_ (hc := by first | exact kx)) | (refine ex rfl (jh7 rfl rfl rfl) ?_) | (refine sx ?_))); refine jb4 ?_; refine kl1 ?_
    have hX := And.intro hln (and_true)
    (repeat refine ja0 ?_); refine jc4 [6, 7, 10, 11, 14, 15, 16] ?_; intro w0 A S0 f0; (repeat ((with_reducible show DR _ _ _ (_ :: _) _); first | (refine cx _ (envG _ _ _ _ _ _) rfl rfl rfl rfl rfl ?_ (hc := by first | exact kx)) | (refine ex rfl (jh7 rfl rfl rfl) ?_) | (refine sx ?_))); refine jb4 ?_; refine kl1 ?_
    by_cases he : e = 0
    · have d0 : decide (e = 0) = true := decide_eq_true he
      rw [if_pos he] at eB
      have hX := And.intro d0 (and_true)
      (repeat refine ja0 ?_); refine jc4 [6, 7, 10, 14, 15, 16, 31] ?_; intro w0 A S0 f0; (repeat ((with_reducible show DR _ _ _ (_ :: _) _); first | (refine cx _ (envG _ _ _ _ _ _) rfl rfl rfl rfl rfl ?_ (hc := by first | exact kx)) | (refine ex rfl (jh7 rfl rfl rfl) ?_) | (refine sx ?_))); refine jb4 ?_; refine kl1 ?_
      (repeat refine ja0 ?_); refine iftx ?_
      (repeat refine ja0 ?_); refine jc4 [6, 7, 14, 15, 16] ?_; intro w0 A S0 f0; (repeat ((with_reducible show DR _ _ _ (_ :: _) _); first | (refine cx _ (envG _ _ _ _ _ _) rfl rfl rfl rfl rfl ?_ (hc := by first | exact kx)) | (refine ex rfl (jh7 rfl rfl rfl) ?_) | (refine sx ?_))); refine jb4 ?_; refine kl1 ?_
      (repeat refine ja0 ?_); refine jc4 [6, 7, 14, 15, 16] ?_; intro w0 A S0 f0; (repeat ((with_reducible show DR _ _ _ (_ :: _) _); first | (refine cx _ (envG _ _ _ _ _ _) rfl rfl rfl rfl rfl ?_ (hc := by first | exact kx)) | (refine ex rfl (jh7 rfl rfl rfl) ?_) | (refine sx ?_))); refine jb4 ?_; refine kl1 ?_
      refine ⟨_, m - 1, WeakX.take 2 rfl rfl rfl, by omega, k + 1, by omega, ?_⟩
      rw [eA, eB]
      first | rfl | simp [iD, bkD, csD, kil, hln]
    · have d0 : decide (e = 0) = false := decide_eq_false he
      rw [if_neg he] at eB
      have hX := And.intro d0 (and_true)
      (repeat refine ja0 ?_); refine jc4 [6, 7, 10, 14, 15, 16, 31] ?_; intro w0 A S0 f0; (repeat ((with_reducible show DR _ _ _ (_ :: _) _); first | (refine cx _ (envG _ _ _ _ _ _) rfl rfl rfl rfl rfl ?_ (hc := by first | exact kx)) | (refine ex rfl (jh7 rfl rfl rfl) ?_) | (refine sx ?_))); refine jb4 ?_; refine kl1 ?_
      (repeat refine ja0 ?_); refine iffx ?_
      (repeat refine ja0 ?_); refine jb3 ?_
      (repeat refine ja0 ?_); refine jc4 [6, 7, 14, 15, 16] ?_; intro w0 A S0 f0; (repeat ((with_reducible show DR _ _ _ (_ :: _) _); first | (refine cx _ (envG _ _ _ _ _ _) rfl rfl rfl rfl rfl ?_ (hc := by first | exact kx)) | (refine ex rfl (jh7 rfl rfl rfl) ?_) | (refine sx ?_))); refine jb4 ?_; refine kl1 ?_
      refine ⟨_, m - 1, WeakX.take 2 rfl rfl rfl, by omega, k + 1, by omega, ?_⟩
      rw [eA, eB]
      first | rfl | simp [iD, bkD, csD, kil, hln]
  · intro hc; (try simp only [hcs, ne_eq] at hc)
    obtain rfl : k = l.length := by omega
    (repeat refine ja0 ?_); refine je4 ?_
    (repeat refine ja0 ?_); refine jc4 [4, 5] ?_; intro w0 A S0 f0; (repeat ((with_reducible show DR _ _ _ (_ :: _) _); first | (refine cx _ (envG _ _ _ _ _ _) rfl rfl rfl rfl rfl ?_ (hc := by first | fail)) | (refine ex rfl (jh7 rfl rfl rfl) ?_) | (refine sx ?_))); refine jb4 ?_; refine kl1 ?_
    (repeat refine ja0 ?_); refine ja9 ?_; refine retx ?_; (try dsimp only [outV, ja8])
    exact vq6 rfl rfl
end Go.Proofs.YtcdnpmpjeeiapaaDoor
