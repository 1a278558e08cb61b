/- Rings, made; a key's root. A ring signs; a key signs. A key signs, as the document says. -/
import Derived.Test.YtcdnpmpjeeiapaaDoorQPD
import Derived.Test.YtcdnpmpjeeiapaaDoorQPQ
import Derived.Test.YtcdnpmpjeeiapaaDoorQPU
set_option linter.unusedSimpArgs false
set_option linter.unusedVariables false
set_option maxRecDepth 10000
namespace Go.Proofs.YtcdnpmpjeeiapaaDoor
open Go.RowKit
def CellLe (d d' : D) : Prop := nc d' = nc d ∧ ∀ (C : Cx) (w : World) (bs : List (Option Nat)) (x : Value) (i : Nat), i < nc d → R1 C w bs x (cell d i) → R1 C w bs x (cell d' i)
theorem CellLe.refl (d : D) : CellLe d d := ⟨rfl, fun _ _ _ _ _ _ h => h⟩
theorem CellLe.nil (l T sz : Nat) : CellLe (.v (.slice none 0 0)) (.own l 0 T sz) := ⟨rfl, fun C w bs x i _ hx => by
  have hx' : RV C w bs x (.v (.slice none 0 0)) := hx
  show R1 C w bs x (.own l 0 T sz)
  rw [(RV_v hx').1]
  exact R1.own0⟩
theorem CellLe.cons {a a' b b' : D} (h : CellLe a a') (k : CellLe b b') : CellLe (.cons a b) (.cons a' b') := by
  refine ⟨by simp only [nc]; rw [h.1, k.1], fun C w bs x i hi hx => ?_⟩
  have hi' : i < nc a + nc b := hi
  by_cases h0 : i < nc a
  · have a1 : cell (.cons a b) i = cell a i := if_pos h0
    have a2 : cell (.cons a' b') i = cell a' i := if_pos (by rw [h.1]; exact h0)
    rw [a1] at hx
    rw [a2]
    exact h.2 C w bs x i h0 hx
  · have a1 : cell (.cons a b) i = cell b (i - nc a) := if_neg h0
    have a2 : cell (.cons a' b') i = cell b' (i - nc a) := by
      have : cell (.cons a' b') i = cell b' (i - nc a') := if_neg (by rw [h.1]; exact h0)
      rw [this, h.1]
    rw [a1] at hx
    rw [a2]
    exact k.2 C w bs x _ (by omega) hx
theorem Weak.nil_at {C : Cx} {l : List (Nat × D)} {h : List (Option Bk)} (p T sz : Nat) {d d' : D} (hp : h[p]? = some (some (.one d))) (hle : CellLe d d') : Weak C (mk l h) (mk l ((h ++ [some (Bk.row [] T sz)]).set p (some (.one d')))) :=
  (Weak.nil_row T sz).trans (Weak.one p (d := d) (by rw [List.getElem?_append_left (List.getElem?_eq_some_iff.1 hp).1]; exact hp) hle.1 fun i w bs x hi hx => hle.2 C w bs x i hi hx)
def jh9 (s : List UInt8) (h n : Int) (l : List (List UInt8)) (r : List UInt8) : D := .cons (keyD s h n) (.cons (hsD l) (.cons (jg4 r) .nil))
theorem jp1 (s : List UInt8) (h n : Int) (l : List (List UInt8)) (r : List UInt8) : jh9 s h n l r = .cons (.cons (.v (.string (B s))) (.cons (.v (.int .i64 h)) (.cons (.v (.int .i64 n)) .nil))) (.cons (.sl l ([] : List UInt8) jg4) (.cons (jg4 r) .nil)) := rfl
def jt0 (s : List UInt8) (m : Nat) : List UInt8 := jm3 m (jh0 s (2 ^ m))
theorem qv7 (s : List UInt8) (m : Nat) : (jt0 s m).length = 32 := qs4 m _ (jl4 s _) (jo7 s _)
set_option maxHeartbeats 8000000 in
theorem vp7 (s : List UInt8) (m n : Nat) (h1 : s.length ≠ 0) (h2 : s.length ≤ 64) (hm : m ≤ 7) (hn : n ≤ 2 ^ m) :
    PH (jb8 Tryd.prog) 56 [keyD s (m : Int) (n : Int)] [] (.tup (.cons (.ptr 0 0) (.cons (iD 0) .nil))) [some (.one (jh9 s (m : Int) (n : Int) (jh0 s (2 ^ m)) (jt0 s m)))] := by
  have hh : ∀ h, jg4 h = .arr .u8 32 (fun i => ((h.getD i 0).toNat : Int)) := fun _ => rfl
  have ck := qv8 s m n h1 h2 hm hn
  have hp := ji1 hm
  have hq := jp9 m
  have e1 := kx8 m
  have hll := jl4 s (2 ^ m)
  have cr := vf3 (jh0 s (2 ^ m)) m hll hm (jo7 s _)
  have hr : jm3 m (jh0 s (2 ^ m)) = jt0 s m := rfl
  rw [hr] at cr
  unfold heD at cr
  generalize jt0 s m = rt at *
  generalize 2 ^ m = N at *
  have hX := and_true; refine ky7 Tryd.func56 rfl Tryd.ntmps56 Tryd.results56 rfl (by simp only [jb5, Nat.reduceAdd, u32D, u8D, iD, bD, strD, ja6, jb1, ja5, ja3, ja4, ja2, ja1, jb2, jb0]; exact rfl) ?_; intro w0 A
  have hX := And.intro jl5 (e1)
  have hK := And.intro (ck) trivial; (repeat refine ja0 ?_); refine rgx [1] ?_
  (repeat refine ja0 ?_); refine rgx [1, 4] ?_
  (repeat refine ja0 ?_); refine rgx [1, 4, 12] ?_
  (repeat refine ja0 ?_); refine iffx ?_
  (repeat refine ja0 ?_); refine jb3 ?_
  (repeat refine ja0 ?_); refine rgx [1, 5] ?_
  (repeat refine ja0 ?_); refine rgx [1, 5, 19, 20] ?_
  (repeat refine ja0 ?_); refine jb9 ?_
  refine jk4 (fun _ _ _ _ => Weak.nil_at 1 23 32 rfl (.cons (.refl _) (.cons (.nil 2 23 32) (.refl _)))) ?_
  refine jf4 (fun j _ st => ∃ k, k + j = N ∧ st = mk [(1, .ptr 0 0), (5, .ptr 1 0), (19, iD (N : Int)), (20, iD (k : Int))] [some (.one (keyD s (m : Int) (n : Int))), some (.one (.cons (keyD s (m : Int) (n : Int)) (.cons (.own 2 k 23 32) (.cons hzD .nil)))), some (.row ((jh0 s k).map jg4) 23 32)]) N ⟨_, WeakX.refl _, 0, by omega, rfl⟩ ?_
  rintro j _ _ ⟨k, hk, rfl⟩
  have hX := And.intro jl5 (jk8)
  (repeat refine ja0 ?_); refine rgx [1, 5, 19, 20, 21] ?_
  (repeat refine ja0 ?_); refine ifx ?_ ?_
  · intro hc; (try simp only [hcs, ne_eq] at hc)
    have hl := jl4 s k
    have hsu := qb0 s k
    (repeat refine ja0 ?_); refine jb3 ?_
    (repeat refine ja0 ?_); refine jb9 ?_
    have hX := And.intro jl5 (And.intro jk8 (And.intro hl (hh)))
    (repeat refine ja0 ?_); refine jc4 [1, 5, 6, 19, 20] ?_; intro w0 A S0 f0; (repeat ((with_reducible show DR _ _ _ (_ :: _) _); first | (refine cx _ (envG _ _ _ _ _ _) rfl rfl rfl rfl rfl ?_ (hc := by first | exact jw6 s _ _ k (by omega) (by omega) | exact kd4 (jk1 s k) (by rw [jt6]; omega)))  | (refine sx ?_))); refine jb4 ?_; refine kl1 ?_
    (repeat refine ja0 ?_); refine vk4 [1, 5, 19, 20] 10 rfl rfl rfl rfl (by kernel_rfl) ?_; intro w0 A S0 f0; simp only [List.take, List.drop]; (repeat ((with_reducible show DRq _ _ _ (_ :: _) _); first | (refine cxq _ (envG _ _ _ _ _ _) rfl rfl rfl rfl rfl ?_ (hc := by first | exact jw6 s _ _ k (by omega) (by omega) | exact kd4 (jk1 s k) (by rw [jt6]; omega))) | (refine sxq ?_))); refine jh2 ?_; (repeat ((with_reducible show DR _ _ _ (_ :: _) _); first | (refine cx _ (envG _ _ _ _ _ _) rfl rfl rfl rfl rfl ?_ (hc := by first | exact jw6 s _ _ k (by omega) (by omega) | exact kd4 (jk1 s k) (by rw [jt6]; omega)))  | (refine sx ?_))); refine jb4 ?_; refine kl1 ?_
    (repeat refine ja0 ?_); refine jc4 [1, 5, 19, 20] ?_; intro w0 A S0 f0; (repeat ((with_reducible show DR _ _ _ (_ :: _) _); first | (refine cx _ (envG _ _ _ _ _ _) rfl rfl rfl rfl rfl ?_ (hc := by first | exact jw6 s _ _ k (by omega) (by omega) | exact kd4 (jk1 s k) (by rw [jt6]; omega)))  | (refine sx ?_))); refine jb4 ?_; refine kl1 ?_
    exact ⟨_, j - 1, WeakX.refl _, by omega, k + 1, by omega, by rw [hsu]; simp [iD, jl5, jk8, hh, kil, mk]⟩
  · intro hc; (try simp only [hcs, ne_eq] at hc)
    obtain rfl : k = N := by omega
    have hl := jl4 s k
    (repeat refine ja0 ?_); refine je4 ?_
    (repeat refine ja0 ?_); refine kv0 2 (jh0 s k) ([] : List UInt8) jg4 (by rfl) (by rfl) (by simp only [List.map_cons, List.map_nil, frzR, iD, reduceIte, Nat.reduceEqDiff]; exact rfl) (by simp only [List.map_cons, List.map_nil, Option.map_some, frzK, frzR, iD, strD, hzD, jl5, hl, List.take_of_length_le, Nat.le_refl, reduceIte, Nat.reduceEqDiff, List.set]; exact rfl) ?_
    have hX := And.intro jl5 (And.intro jk8 (And.intro jg6 (hh)))
    have hK := And.intro (cr) trivial; (repeat refine ja0 ?_); refine rgx [5, 7, 8] ?_
    (repeat refine ja0 ?_); refine rgx [5, 7, 8, 46] ?_
    (repeat refine ja0 ?_); refine iffx ?_
    (repeat refine ja0 ?_); refine jb3 ?_
    (repeat refine ja0 ?_); refine rgx [5] ?_
    (repeat refine ja0 ?_); refine rgx [2, 3] ?_
    (repeat refine ja0 ?_); refine ja9 ?_; refine retx ?_; (try dsimp only [outV, ja8])
    exact FinH.of_weak rfl ((WeakX.take 2 rfl rfl rfl).trans (WeakX.shift rfl (by simp [mk, jp1, shB, shD, hh, jg6, jl5])))




def sigK (s : List UInt8) (m n : Nat) (text : List UInt8) : List UInt8 := UInt8.ofNat n :: (jo2 (jk1 s n) text ++ (jn3 m (jh0 s (2 ^ m)) n).flatten)
theorem kr2 {n : Nat} (h : n < 256) : (UInt8.ofNat n).toNat = n := by rw [UInt8.toNat_ofNat']; omega
theorem kb9 : ∀ (p : List (List UInt8)), (∀ x ∈ p, x.length = 32) → p.flatten.length = 32 * p.length
  | [], _ => rfl
  | x :: p, h => by
    have h1 := h x (by simp)
    have h2 := kb9 p (fun y hy => h y (by simp [hy]))
    simp only [List.flatten_cons, List.length_append, List.length_cons, h1, h2]
    omega
theorem qu4 {p : List (List UInt8)} {k : Nat} (h : k < p.length) : (p.take (k + 1)).flatten = (p.take k).flatten ++ p.getD k [] := by
  rw [qe3 h]; simp
theorem ju6 (seed text : List UInt8) : (jo2 seed text).length = 1088 := by unfold jo2; rw [jn5]
set_option maxHeartbeats 8000000 in
theorem kf9 (s text : List UInt8) (m n : Nat) (rt : List UInt8) (h2 : s.length ≤ 64) (hm : m ≤ 7) (hn : n < 2 ^ m) (ht : text.length ≤ 1000000) :
    PH (jb8 Tryd.prog) 112 [.ptr 0 0, strD text] [some (.one (jh9 s (m : Int) (n : Int) (jh0 s (2 ^ m)) rt))] (.tup (.cons (strD (sigK s m n text)) (.cons (iD 0) .nil))) [some (.one (jh9 s (m : Int) ((n : Int) + 1) (jh0 s (2 ^ m)) rt))] := by
  have hh : ∀ h, jg4 h = .arr .u8 32 (fun i => ((h.getD i 0).toNat : Int)) := fun _ => rfl
  have hp := ji1 hm
  have hll := jl4 s (2 ^ m)
  have d1 : decide ((n : Int) = ((jh0 s (2 ^ m)).length : Int)) = false := decide_eq_false (by rw [hll]; omega)
  have cp := ve6 (jh0 s (2 ^ m)) m n hll hm (jo7 s _) hn
  have hpl := jz2 m (jh0 s (2 ^ m)) n
  have hpa := kg4 m (jh0 s (2 ^ m)) n hll hn (jo7 s _)
  have cs := vt1 (jk1 s n) text (by rw [jt6]; omega) ht
  have hsl := ju6 (jk1 s n) text
  have e1 : (n : Int) % 256 = (n : Int) := by omega
  have eb := kr2 (show n < 256 by omega)
  unfold sigK
  unfold psD at cp
  generalize jn3 m (jh0 s (2 ^ m)) n = p at *
  generalize jo2 (jk1 s n) text = sg at *
  generalize jh0 s (2 ^ m) = lv at *
  have hX := and_true; refine kg2 Tryd.func112 rfl Tryd.ntmps112 Tryd.results112 rfl (by simp only [jb5, Nat.reduceAdd, u32D, u8D, iD, bD, strD, ja6, jb1, ja5, ja3, ja4, ja2, ja1, jb2, jb0]; exact rfl) ?_; intro w0 A bs0
  have hX := And.intro jp1 (And.intro hh (d1))
  (repeat refine ja0 ?_); refine rgx [0, 1] ?_
  (repeat refine ja0 ?_); refine rgx [0, 1, 6] ?_
  (repeat refine ja0 ?_); refine rgx [0, 1, 6, 23] ?_
  (repeat refine ja0 ?_); refine iffx ?_
  (repeat refine ja0 ?_); refine jb3 ?_
  have hX := And.intro jg6 (hh)
  have hK := And.intro (cp) trivial; (repeat refine ja0 ?_); refine rgx [0, 1, 6, 7, 8] ?_
  (repeat refine ja0 ?_); refine rgx [0, 1, 6, 7, 8, 34] ?_
  (repeat refine ja0 ?_); refine iffx ?_
  (repeat refine ja0 ?_); refine jb3 ?_
  have hX := And.intro jl5 (And.intro jg6 (And.intro hh (And.intro e1 (hsl))))
  (repeat refine ja0 ?_); refine jc4 [0, 7, 9] ?_; intro w0 A S0 f0; iterate 2 ((with_reducible show DR _ _ _ (_ :: _) _); first | (refine cx _ (envG _ _ _ _ _ _) rfl rfl rfl rfl rfl ?_ (hc := by first | exact jw6 s (m : Int) (n : Int) n (by omega) (by omega) | exact cs))  | (refine sx ?_))
  refine ex rfl (jw3 rfl rfl rfl rfl rfl) ?_; (repeat ((with_reducible show DR _ _ _ (_ :: _) _); first | (refine cx _ (envG _ _ _ _ _ _) rfl rfl rfl rfl rfl ?_ (hc := by first | exact jw6 s (m : Int) (n : Int) n (by omega) (by omega) | exact cs))  | (refine sx ?_))); refine jb4 ?_; refine kl1 ?_
  have hK := And.intro (jw6 s (m : Int) (n : Int) n (by omega) (by omega)) (And.intro (cs) trivial); (repeat refine ja0 ?_); refine rgx [0, 9, 48, 49, 50] ?_
  (repeat refine ja0 ?_); refine jb9 ?_
  (repeat refine ja0 ?_); refine jf4 (fun j _ st => ∃ k, k + j = p.length ∧ st = mk [(0, .ptr 0 0), (9, .own 1 (1 + 1088 + 32 * k) 5 1), (48, hsD p), (49, iD (p.length : Int)), (50, iD (k : Int))] [some (.one (jh9 s (m : Int) (n : Int) lv rt)), some (.row ((UInt8.ofNat n :: (sg ++ (p.take k).flatten)).map jc1) 5 1)]) p.length ⟨_, WeakX.refl _, 0, by omega, ?_⟩ ?_
  · simp [iD, jg6, jp1, hh, jc1, eb, hsl, kil]
  rintro j _ _ ⟨k, hk, rfl⟩
  have hX := And.intro jg6 (And.intro hh (jp1))
  (repeat refine ja0 ?_); refine rgx [0, 9, 48, 49, 50, 51] ?_
  (repeat refine ja0 ?_); refine ifx ?_ ?_
  · intro hc; (try simp only [hcs, ne_eq] at hc)
    have hkn : k < p.length := by omega
    have hft := qu4 hkn
    have hfl := kb9 (p.take k) (fun x hx => hpa x (List.mem_of_mem_take hx))
    rw [List.length_take, Nat.min_eq_left (by omega)] at hfl
    have hxl := jx2 hpa hkn
    generalize hxx : p.getD k [] = x at *
    have hbx := kr1 hxl
    (repeat refine ja0 ?_); refine jb3 ?_
    (repeat refine ja0 ?_); refine jb9 ?_
    have hX := And.intro jg6 (And.intro hh (And.intro hxx (And.intro hbx (And.intro hxl (And.intro hfl (hsl))))))
    (repeat refine ja0 ?_); refine rgx [0, 9, 11, 48, 49, 50] ?_
    (repeat refine ja0 ?_); refine rgx [0, 9, 48, 49, 50] ?_
    (repeat refine ja0 ?_); refine rgx [0, 9, 48, 49, 50] ?_
    refine ⟨_, j - 1, WeakX.takeP 2 rfl rfl rfl rfl, by omega, k + 1, by omega, ?_⟩
    rw [hft]
    simp [iD, jg6, hh, jp1, jc1, kil, hxl, Nat.mul_add, Nat.add_assoc]
  · intro hc; (try simp only [hcs, ne_eq] at hc)
    obtain rfl : k = p.length := by omega
    have hfl := kb9 p hpa
    (repeat refine ja0 ?_); refine je4 ?_
    rw [List.take_length]
    have hbl : (UInt8.ofNat n :: (sg ++ p.flatten)).length = 1089 + 32 * p.length := by
      simp only [List.length_cons, List.length_append, hfl, hsl]; omega
    have hb2 : 1 + 1088 + 32 * p.length = 1089 + 32 * p.length := by omega
    generalize UInt8.ofNat n :: (sg ++ p.flatten) = bg at *
    have hX := And.intro jp1 (And.intro hh (And.intro hbl (hb2)))
    (repeat refine ja0 ?_); refine rgx [9] ?_
    (repeat refine ja0 ?_); refine rgx [4, 5] ?_
    (repeat refine ja0 ?_); refine ja9 ?_; refine retx ?_; (try dsimp only [outV, ja8])
    exact FinH.of_weak rfl (WeakX.takeP 1 rfl rfl rfl rfl)










end Go.Proofs.YtcdnpmpjeeiapaaDoor
