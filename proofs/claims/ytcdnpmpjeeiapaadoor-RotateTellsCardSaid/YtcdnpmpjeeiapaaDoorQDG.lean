/- The document's: the grant of what is signed, and a cert, are read. (Written by gen_rk.py.) -/
import Derived.Test.YtcdnpmpjeeiapaaDoorQPD
import Derived.Test.YtcdnpmpjeeiapaaDoorQDD
set_option linter.unusedSimpArgs false
set_option linter.unusedVariables false
set_option maxRecDepth 10000
namespace Go.Proofs.YtcdnpmpjeeiapaaDoor
open Go.RowKit
def redR (t : List UInt8) : Gr × Bool := if (allS t).2 = 0 ∧ okR (allS t).1 then (grR (allS t).1, decide (chkC ⟨grR (allS t).1, []⟩ = 0)) else (gz, false)
def rgD (r : Gr × Bool) : D := .tup (.cons (grD r.1) (.cons (bD r.2) .nil))
theorem vd9 (x1 x2 x3 x4 : Int) {l : List UInt8} (h : l.length = 32) : ∀ i, i < nc (gzD x1 x2 x3 x4 (fun _ => 0)) → cell (gzD x1 x2 x3 x4 (fun i => ((l.getD i 0).toNat : Int))) i = if 4 ≤ i ∧ i < 4 + min (l.map jc1).length 32 then (l.map jc1).getD (i - 4) .dead else cell (gzD x1 x2 x3 x4 (fun _ => 0)) i := by
  have := qn7 x1 x2 x3 x4 l
  rwa [List.take_of_length_le (by omega)] at this
def nvD (t : List UInt8) : D := .v (.int .i64 ((getS t).1 : Int))
set_option maxHeartbeats 16000000 in
theorem qw2 (t : List UInt8) (ht : t.length ≤ 4611686018427387904) : PC (jb8 Tryd.prog) 68 [strD t] (rgD (redR t)) := by
  have ka := kz5 t ht
  have hbk := jy2 (s := t)
  unfold redR
  generalize allS t = q at *
  obtain ⟨ls, e⟩ := q
  simp only at hbk ⊢
  unfold alD at ka
  simp only at ka
  by_cases c0 : e = 0
  · subst c0
    by_cases c1 : ls.length = 6
    · obtain ⟨a0, a1, a2, a3, a4, a5, rfl⟩ := qx6 c1
      have d1 : decide ((([a0, a1, a2, a3, a4, a5] : List (List UInt8)).length : Int) = 6) = true := decide_eq_true rfl
      have hX := and_true; refine jb6 Tryd.func68 rfl Tryd.ntmps68 Tryd.results68 rfl (by simp only [jb5, Nat.reduceAdd, u32D, u8D, iD, bD, strD, ja6, jb1, ja5, ja3, ja4, ja2, ja1, jb2, jb0]; exact rfl) ?_; intro w0 A
      have hX := And.intro jf3 (d1)
      have hK := And.intro (ka) trivial; (repeat refine ja0 ?_); refine rgx [0, 2] ?_
      (repeat refine ja0 ?_); refine rgx [2, 4, 5] ?_
      (repeat refine ja0 ?_); refine jc4 [2, 4, 37] ?_; intro w0 A S0 f0
      (repeat (first | (refine gtx rfl rfl ?_) | (refine gx ?_) | ((with_reducible show DR _ _ _ (_ :: _) _); first | (refine cx _ (envG _ _ _ _ _ _) rfl rfl rfl rfl rfl ?_ (hc := by first | exact ka))  | (refine sx ?_))))
      refine gsx rfl rfl rfl rfl ?_ ?_
      · intro hc
        have cm : a0 = [99, 101, 114, 116] := by
          have hc2 := hc
          simp only [decide_eq_true_eq, decide_eq_false_iff_not, Bool.not_eq_true', Bool.not_eq_false', Int.not_lt, Int.not_le, ge_iff_le, gt_iff_lt, Classical.not_not, ne_eq, Bool.not_true, Bool.not_false, Int.natCast_inj, Int.ofNat_le, Int.ofNat_lt] at hc2
          first | exact hc2 | exact @of_decide_eq_true _ _ hc2
        by_cases c5 : a5.length = 32
        · have d5 : decide ((a5.length : Int) = 32) = true := decide_eq_true (by omega)
          have hlen := (lisE_ok.1 (hbk rfl).2).2
          have hX := And.intro jf3 (And.intro d5 (hc))
          (repeat (first | (refine gtx rfl rfl ?_) | (refine gx ?_) | ((with_reducible show DR _ _ _ (_ :: _) _); first | (refine cx _ (envG _ _ _ _ _ _) rfl rfl rfl rfl rfl ?_ (hc := by first | exact ka))  | (refine sx ?_)))); refine jb4 ?_; refine kl1 ?_
          (repeat refine ja0 ?_); refine iffx ?_
          (repeat refine ja0 ?_); refine jb3 ?_
          (repeat refine ja0 ?_); refine rgx [2, 4, 6] ?_
          (repeat refine ja0 ?_); refine rgx [2, 4, 6, 40, 41, 42] (l' := [(2, .ptr 0 0), (4, jj5 [a0, a1, a2, a3, a4, a5]), (6, .v (.slice none 0 0)), (40, jj5 [a1, a2, a3, a4]), (41, iD 4), (42, iD 0)]) (h' := [some (.one (grD gz))]) ?_ ?_
          rotate_left
          · intro w0 A S0 f0
            (repeat ((with_reducible show DR _ _ _ (_ :: _) _); first | (refine cx _ (envG _ _ _ _ _ _) rfl rfl rfl rfl rfl ?_ (hc := by first | exact ka))  | (refine sx ?_))); refine jb4 ?_; refine kl1 ?_
            rfl
          obtain ⟨w, hw⟩ : ∃ w, w = [a1, a2, a3, a4] := ⟨_, rfl⟩
          have hwl : w.length = 4 := by rw [hw]; rfl
          rw [← hw]
          (repeat refine ja0 ?_); refine jb9 ?_
          refine jk4 (fun _ _ _ _ => Weak.nil_own 6 2 1 rfl) ?_
          refine jf4 (fun m _ st => ∃ k, k + m = 4 ∧ (∀ j, j < k → jc3 (w.getD j []) = true) ∧ st = mk [(2, .ptr 0 0), (4, jj5 [a0, a1, a2, a3, a4, a5]), (6, .own 1 k 2 1), (40, jj5 w), (41, iD 4), (42, iD (k : Int))] [some (.one (grD gz)), some (.row ((w.take k).map nvD) 2 1)]) 4 ⟨_, WeakX.pick [2, 4, 6, 40, 41, 42], 0, by omega, fun j hj => by omega, rfl⟩ ?_
          rintro m _ _ ⟨k, hk, hall, rfl⟩
          have hX := and_true
          (repeat refine ja0 ?_); refine rgx [2, 4, 6, 40, 41, 42, 43] ?_
          (repeat refine ja0 ?_); refine ifx ?_ ?_
          · intro hc; (try simp only [hcs, ne_eq] at hc)
            have hk4 : k < 4 := by omega
            obtain ⟨x, hx⟩ : ∃ x, w.getD k [] = x := ⟨_, rfl⟩
            have hxm : x ∈ ([a0, a1, a2, a3, a4, a5] : List (List UInt8)) := by
              rw [← hx, hw]
              rcases (show k = 0 ∨ k = 1 ∨ k = 2 ∨ k = 3 by omega) with rfl | rfl | rfl | rfl <;> simp
            have hxl := hlen x hxm
            have kg := jz9 x (by omega)
            obtain ⟨hu1, hu2, hu3⟩ := jm2 (s := x)
            have hln : ((w.take k).map nvD).length = k := by rw [List.length_map, List.length_take]; omega
            have hst : w.take (k + 1) = w.take k ++ [x] := by
              rw [← hx, List.getD_eq_getElem?_getD, List.getElem?_eq_getElem (by omega), List.take_succ_eq_append_getElem (by omega)]; rfl
            have hnv : nvD x = .v (.int .i64 ((getS x).1 : Int)) := rfl
            have hO : jc3 x = (decide ((getS x).2.2 = 0) && decide ((getS x).2.1 = x.length)) := rfl
            have hbad : jc3 x ≠ true → ¬ okR [a0, a1, a2, a3, a4, a5] := fun hn h => hn (by
              rw [← hx, hw]
              obtain ⟨_, _, o1, o2, o3, o4, _⟩ := h
              rcases (show k = 0 ∨ k = 1 ∨ k = 2 ∨ k = 3 by omega) with rfl | rfl | rfl | rfl
              · exact o1
              · exact o2
              · exact o3
              · exact o4)
            generalize getS x = r at *
            obtain ⟨n, u, e⟩ := r
            simp only at hu1 hu2 hu3 hO hnv
            unfold gnD at kg
            simp only [jd5] at kg
            obtain ⟨R, hR⟩ : ∃ R, R = (w.take k).map nvD := ⟨_, rfl⟩
            rw [← hR] at hln ⊢
            have e2 : (n : Int) % 18446744073709551616 = (n : Int) := by omega
            (repeat refine ja0 ?_); refine jb3 ?_
            (repeat refine ja0 ?_); refine jb9 ?_
            have hX := And.intro jf3 (hx)
            have hK := And.intro (kg) trivial; (repeat refine ja0 ?_); refine rgx [2, 4, 6, 8, 40, 41, 42] ?_
            (repeat refine ja0 ?_); refine rgx [2, 4, 6, 8, 9, 10, 11, 40, 41, 42] ?_
            by_cases c2 : e = 0
            · subst c2
              by_cases c3 : u = x.length
              · have d3 : decide ((u : Int) = (x.length : Int)) = true := decide_eq_true (by omega)
                have hok : jc3 x = true := by rw [hO]; simp [c3]
                have hX := And.intro d3 (and_true)
                (repeat refine ja0 ?_); refine rggx [2, 4, 6, 9, 40, 41, 42, 59] ?_
                (repeat refine ja0 ?_); refine iffx ?_
                (repeat refine ja0 ?_); refine jb3 ?_
                have hX := And.intro hln (e2)
                (repeat refine ja0 ?_); refine rgx [2, 4, 6, 40, 41, 42] ?_
                (repeat refine ja0 ?_); refine rgx [2, 4, 6, 40, 41, 42] ?_
                refine ⟨_, m - 1, WeakX.refl _, by omega, k + 1, by omega, fun j hj => ?_, ?_⟩
                · by_cases hjk : j = k
                  · rw [hjk, hx]; exact hok
                  · exact hall j (by omega)
                · rw [hst, List.map_append, List.map_cons, List.map_nil, hnv, ← hR]
                  first | rfl | (simp only [hln]; rfl) | simp [iD, jj5, hln]
              · have d3 : decide ((u : Int) = (x.length : Int)) = false := decide_eq_false (by omega)
                rw [if_neg (fun h => hbad (by rw [hO]; simp [c3]) h.2)]
                have hX := And.intro d3 (and_true)
                (repeat refine ja0 ?_); refine rggx [2, 4, 6, 9, 40, 41, 42, 59] ?_
                (repeat refine ja0 ?_); refine iftx ?_
                (repeat refine ja0 ?_); refine rgx [2, 3] ?_
                (repeat refine ja0 ?_); refine ja9 ?_; refine retx ?_; (try dsimp only [outV, ja8])
                exact ja7 rfl
            · have d2 : decide (e = 0) = false := decide_eq_false c2
              rw [if_neg (fun h => hbad (by rw [hO]; simp [c2]) h.2)]
              have hX := And.intro d2 (and_true)
              (repeat refine ja0 ?_); refine rggx [2, 4, 6, 9, 40, 41, 42, 59] ?_
              (repeat refine ja0 ?_); refine iftx ?_
              (repeat refine ja0 ?_); refine rgx [2, 3] ?_
              (repeat refine ja0 ?_); refine ja9 ?_; refine retx ?_; (try dsimp only [outV, ja8])
              exact ja7 rfl
          · intro hc; (try simp only [hcs, ne_eq] at hc)
            obtain rfl : k = 4 := by omega
            (repeat refine ja0 ?_); refine je4 ?_
            have o1 : jc3 a1 = true := by have := hall 0 (by omega); rwa [hw] at this
            have o2 : jc3 a2 = true := by have := hall 1 (by omega); rwa [hw] at this
            have o3 : jc3 a3 = true := by have := hall 2 (by omega); rwa [hw] at this
            have o4 : jc3 a4 = true := by have := hall 3 (by omega); rwa [hw] at this
            rw [if_pos ⟨by trivial, c1, cm, o1, o2, o3, o4, c5⟩]
            have hG : grR [a0, a1, a2, a3, a4, a5] = ⟨((getS a1).1 : Int), ((getS a2).1 : Int), ((getS a3).1 : Int), ((getS a4).1 : Int), a5⟩ := rfl
            have hR : (w.take 4).map nvD = [nvD a1, nvD a2, nvD a3, nvD a4] := by rw [hw]; rfl
            rw [hG, hR]
            have kc := js9 ⟨⟨((getS a1).1 : Int), ((getS a2).1 : Int), ((getS a3).1 : Int), ((getS a4).1 : Int), a5⟩, []⟩
            generalize chkC ⟨⟨((getS a1).1 : Int), ((getS a2).1 : Int), ((getS a3).1 : Int), ((getS a4).1 : Int), a5⟩, []⟩ = q at *
            have hX := and_true
            (repeat refine ja0 ?_); refine ks8 [2, 4, 12] [14] 13 0 [none] [.dead] [(.own 1 4 2 1), .ptr 1 0, (.v (.int .i64 ((getS a1).1 : Int))), (.own 1 4 2 1), .ptr 1 1, (.v (.int .i64 ((getS a2).1 : Int))), (.own 1 4 2 1), .ptr 1 2, (.v (.int .i64 ((getS a3).1 : Int))), (.own 1 4 2 1), .ptr 1 3, (.v (.int .i64 ((getS a4).1 : Int))), (.cons (.v (.int .i64 ((getS a1).1 : Int))) (.cons (.v (.int .i64 ((getS a2).1 : Int))) (.cons (.v (.int .i64 ((getS a3).1 : Int))) (.cons (.v (.int .i64 ((getS a4).1 : Int))) (.cons (.arr .u8 32 (fun _ => (0 : Int))) .nil))))), .ptr 2 0, .dead] [[some (.one (.cons (.v (.int .i64 0)) (.cons (.v (.int .i64 0)) (.cons (.v (.int .i64 0)) (.cons (.v (.int .i64 0)) (.cons (.arr .u8 32 (fun _ => (0 : Int))) .nil)))))), some (.row [.v (.int .i64 ((getS a1).1 : Int)), .v (.int .i64 ((getS a2).1 : Int)), .v (.int .i64 ((getS a3).1 : Int)), .v (.int .i64 ((getS a4).1 : Int))] 2 1)]] [[some (.one (.cons (.v (.int .i64 0)) (.cons (.v (.int .i64 0)) (.cons (.v (.int .i64 0)) (.cons (.v (.int .i64 0)) (.cons (.arr .u8 32 (fun _ => (0 : Int))) .nil)))))), some (.row [.v (.int .i64 ((getS a1).1 : Int)), .v (.int .i64 ((getS a2).1 : Int)), .v (.int .i64 ((getS a3).1 : Int)), .v (.int .i64 ((getS a4).1 : Int))] 2 1), some (.one (.cons (.v (.int .i64 0)) (.cons (.v (.int .i64 0)) (.cons (.v (.int .i64 0)) (.cons (.v (.int .i64 0)) (.cons (.arr .u8 32 (fun _ => (0 : Int))) .nil))))))], [some (.one (.cons (.v (.int .i64 0)) (.cons (.v (.int .i64 0)) (.cons (.v (.int .i64 0)) (.cons (.v (.int .i64 0)) (.cons (.arr .u8 32 (fun _ => (0 : Int))) .nil)))))), some (.row [.v (.int .i64 ((getS a1).1 : Int)), .v (.int .i64 ((getS a2).1 : Int)), .v (.int .i64 ((getS a3).1 : Int)), .v (.int .i64 ((getS a4).1 : Int))] 2 1), some (.one (.cons (.v (.int .i64 ((getS a1).1 : Int))) (.cons (.v (.int .i64 ((getS a2).1 : Int))) (.cons (.v (.int .i64 ((getS a3).1 : Int))) (.cons (.v (.int .i64 ((getS a4).1 : Int))) (.cons (.arr .u8 32 (fun _ => (0 : Int))) .nil))))))]] [(0, 0, false), (0, 0, true), (1, 0, false), (1, 0, true), (2, 0, false), (2, 0, true), (3, 0, false), (3, 0, true), (4, 0, false), (4, 0, true), (5, 0, false), (5, 0, true), (6, 0, false), (6, 0, true), (7, 0, false), (7, 0, true), (8, 0, false), (8, 0, true), (9, 0, false), (9, 0, true), (10, 0, false), (10, 0, true), (11, 0, false), (11, 0, true), (12, 0, false), (12, 0, true)] [(0, true)] (by kernel_rfl) (by kernel_rfl) (l' := [(2, .ptr 0 0), (4, (.sl [a0, a1, a2, a3, a4, a5] ([] : List UInt8) (fun t => .v (.string (B t))))), (12, .ptr 2 0)]) (h' := [some (.one (.cons (.v (.int .i64 0)) (.cons (.v (.int .i64 0)) (.cons (.v (.int .i64 0)) (.cons (.v (.int .i64 0)) (.cons (.arr .u8 32 (fun _ => (0 : Int))) .nil)))))), some (.row [.v (.int .i64 ((getS a1).1 : Int)), .v (.int .i64 ((getS a2).1 : Int)), .v (.int .i64 ((getS a3).1 : Int)), .v (.int .i64 ((getS a4).1 : Int))] 2 1), some (.one (.cons (.v (.int .i64 ((getS a1).1 : Int))) (.cons (.v (.int .i64 ((getS a2).1 : Int))) (.cons (.v (.int .i64 ((getS a3).1 : Int))) (.cons (.v (.int .i64 ((getS a4).1 : Int))) (.cons (.arr .u8 32 (fun _ => (0 : Int))) .nil))))))]) ?_ ?_ ?_ (by kernel_rfl) (by kernel_rfl) ?_
            · intro w0 A S0 f0
              refine ⟨?_, ?_, ?_, ?_, ?_, ?_, ?_, ?_, ?_, ?_, ?_, ?_, ?_, ?_, ?_, ?_, ?_, ?_, ?_, ?_, ?_, ?_, ?_, ?_, ?_, ?_, trivial⟩
              iterate 2 (exact qa0 [(.own 1 4 2 1)] (.own 1 4 2 1) rfl rfl)
              iterate 2 (exact qa0 [(.own 1 4 2 1), .v (.int .i64 0)] (.ptr 1 0) rfl rfl)
              · exact qa1 [.ptr 1 0] [some (.one (.cons (.v (.int .i64 0)) (.cons (.v (.int .i64 0)) (.cons (.v (.int .i64 0)) (.cons (.v (.int .i64 0)) (.cons (.arr .u8 32 (fun _ => (0 : Int))) .nil)))))), some (.row [.v (.int .i64 ((getS a1).1 : Int)), .v (.int .i64 ((getS a2).1 : Int)), .v (.int .i64 ((getS a3).1 : Int)), .v (.int .i64 ((getS a4).1 : Int))] 2 1)] (.v (.int .i64 ((getS a1).1 : Int))) rfl rfl
              · exact qa1 [.ptr 1 0] [some (.one (.cons (.v (.int .i64 0)) (.cons (.v (.int .i64 0)) (.cons (.v (.int .i64 0)) (.cons (.v (.int .i64 0)) (.cons (.arr .u8 32 (fun _ => (0 : Int))) .nil)))))), some (.row [.v (.int .i64 ((getS a1).1 : Int)), .v (.int .i64 ((getS a2).1 : Int)), .v (.int .i64 ((getS a3).1 : Int)), .v (.int .i64 ((getS a4).1 : Int))] 2 1), some (.one (.cons (.v (.int .i64 0)) (.cons (.v (.int .i64 0)) (.cons (.v (.int .i64 0)) (.cons (.v (.int .i64 0)) (.cons (.arr .u8 32 (fun _ => (0 : Int))) .nil))))))] (.v (.int .i64 ((getS a1).1 : Int))) rfl rfl
              iterate 2 (exact qa0 [(.own 1 4 2 1)] (.own 1 4 2 1) rfl rfl)
              iterate 2 (exact qa0 [(.own 1 4 2 1), .v (.int .i64 1)] (.ptr 1 1) rfl rfl)
              · exact qa1 [.ptr 1 1] [some (.one (.cons (.v (.int .i64 0)) (.cons (.v (.int .i64 0)) (.cons (.v (.int .i64 0)) (.cons (.v (.int .i64 0)) (.cons (.arr .u8 32 (fun _ => (0 : Int))) .nil)))))), some (.row [.v (.int .i64 ((getS a1).1 : Int)), .v (.int .i64 ((getS a2).1 : Int)), .v (.int .i64 ((getS a3).1 : Int)), .v (.int .i64 ((getS a4).1 : Int))] 2 1)] (.v (.int .i64 ((getS a2).1 : Int))) rfl rfl
              · exact qa1 [.ptr 1 1] [some (.one (.cons (.v (.int .i64 0)) (.cons (.v (.int .i64 0)) (.cons (.v (.int .i64 0)) (.cons (.v (.int .i64 0)) (.cons (.arr .u8 32 (fun _ => (0 : Int))) .nil)))))), some (.row [.v (.int .i64 ((getS a1).1 : Int)), .v (.int .i64 ((getS a2).1 : Int)), .v (.int .i64 ((getS a3).1 : Int)), .v (.int .i64 ((getS a4).1 : Int))] 2 1), some (.one (.cons (.v (.int .i64 0)) (.cons (.v (.int .i64 0)) (.cons (.v (.int .i64 0)) (.cons (.v (.int .i64 0)) (.cons (.arr .u8 32 (fun _ => (0 : Int))) .nil))))))] (.v (.int .i64 ((getS a2).1 : Int))) rfl rfl
              iterate 2 (exact qa0 [(.own 1 4 2 1)] (.own 1 4 2 1) rfl rfl)
              iterate 2 (exact qa0 [(.own 1 4 2 1), .v (.int .i64 2)] (.ptr 1 2) rfl rfl)
              · exact qa1 [.ptr 1 2] [some (.one (.cons (.v (.int .i64 0)) (.cons (.v (.int .i64 0)) (.cons (.v (.int .i64 0)) (.cons (.v (.int .i64 0)) (.cons (.arr .u8 32 (fun _ => (0 : Int))) .nil)))))), some (.row [.v (.int .i64 ((getS a1).1 : Int)), .v (.int .i64 ((getS a2).1 : Int)), .v (.int .i64 ((getS a3).1 : Int)), .v (.int .i64 ((getS a4).1 : Int))] 2 1)] (.v (.int .i64 ((getS a3).1 : Int))) rfl rfl
              · exact qa1 [.ptr 1 2] [some (.one (.cons (.v (.int .i64 0)) (.cons (.v (.int .i64 0)) (.cons (.v (.int .i64 0)) (.cons (.v (.int .i64 0)) (.cons (.arr .u8 32 (fun _ => (0 : Int))) .nil)))))), some (.row [.v (.int .i64 ((getS a1).1 : Int)), .v (.int .i64 ((getS a2).1 : Int)), .v (.int .i64 ((getS a3).1 : Int)), .v (.int .i64 ((getS a4).1 : Int))] 2 1), some (.one (.cons (.v (.int .i64 0)) (.cons (.v (.int .i64 0)) (.cons (.v (.int .i64 0)) (.cons (.v (.int .i64 0)) (.cons (.arr .u8 32 (fun _ => (0 : Int))) .nil))))))] (.v (.int .i64 ((getS a3).1 : Int))) rfl rfl
              iterate 2 (exact qa0 [(.own 1 4 2 1)] (.own 1 4 2 1) rfl rfl)
              iterate 2 (exact qa0 [(.own 1 4 2 1), .v (.int .i64 3)] (.ptr 1 3) rfl rfl)
              · exact qa1 [.ptr 1 3] [some (.one (.cons (.v (.int .i64 0)) (.cons (.v (.int .i64 0)) (.cons (.v (.int .i64 0)) (.cons (.v (.int .i64 0)) (.cons (.arr .u8 32 (fun _ => (0 : Int))) .nil)))))), some (.row [.v (.int .i64 ((getS a1).1 : Int)), .v (.int .i64 ((getS a2).1 : Int)), .v (.int .i64 ((getS a3).1 : Int)), .v (.int .i64 ((getS a4).1 : Int))] 2 1)] (.v (.int .i64 ((getS a4).1 : Int))) rfl rfl
              · exact qa1 [.ptr 1 3] [some (.one (.cons (.v (.int .i64 0)) (.cons (.v (.int .i64 0)) (.cons (.v (.int .i64 0)) (.cons (.v (.int .i64 0)) (.cons (.arr .u8 32 (fun _ => (0 : Int))) .nil)))))), some (.row [.v (.int .i64 ((getS a1).1 : Int)), .v (.int .i64 ((getS a2).1 : Int)), .v (.int .i64 ((getS a3).1 : Int)), .v (.int .i64 ((getS a4).1 : Int))] 2 1), some (.one (.cons (.v (.int .i64 0)) (.cons (.v (.int .i64 0)) (.cons (.v (.int .i64 0)) (.cons (.v (.int .i64 0)) (.cons (.arr .u8 32 (fun _ => (0 : Int))) .nil))))))] (.v (.int .i64 ((getS a4).1 : Int))) rfl rfl
              iterate 2 (exact qa0 [(.v (.int .i64 ((getS a1).1 : Int))), (.v (.int .i64 ((getS a2).1 : Int))), (.v (.int .i64 ((getS a3).1 : Int))), (.v (.int .i64 ((getS a4).1 : Int)))] (.cons (.v (.int .i64 ((getS a1).1 : Int))) (.cons (.v (.int .i64 ((getS a2).1 : Int))) (.cons (.v (.int .i64 ((getS a3).1 : Int))) (.cons (.v (.int .i64 ((getS a4).1 : Int))) (.cons (.arr .u8 32 (fun _ => (0 : Int))) .nil))))) rfl rfl)
            · intro w0 A S0 f0
              refine ⟨?_, trivial⟩
              · exact es2 14 (.ptr 2 0) (.cons (.v (.int .i64 ((getS a1).1 : Int))) (.cons (.v (.int .i64 ((getS a2).1 : Int))) (.cons (.v (.int .i64 ((getS a3).1 : Int))) (.cons (.v (.int .i64 ((getS a4).1 : Int))) (.cons (.arr .u8 32 (fun _ => (0 : Int))) .nil))))) [some (.one (.cons (.v (.int .i64 0)) (.cons (.v (.int .i64 0)) (.cons (.v (.int .i64 0)) (.cons (.v (.int .i64 0)) (.cons (.arr .u8 32 (fun _ => (0 : Int))) .nil)))))), some (.row [.v (.int .i64 ((getS a1).1 : Int)), .v (.int .i64 ((getS a2).1 : Int)), .v (.int .i64 ((getS a3).1 : Int)), .v (.int .i64 ((getS a4).1 : Int))] 2 1), some (.one (.cons (.v (.int .i64 0)) (.cons (.v (.int .i64 0)) (.cons (.v (.int .i64 0)) (.cons (.v (.int .i64 0)) (.cons (.arr .u8 32 (fun _ => (0 : Int))) .nil))))))] [some (.one (.cons (.v (.int .i64 0)) (.cons (.v (.int .i64 0)) (.cons (.v (.int .i64 0)) (.cons (.v (.int .i64 0)) (.cons (.arr .u8 32 (fun _ => (0 : Int))) .nil)))))), some (.row [.v (.int .i64 ((getS a1).1 : Int)), .v (.int .i64 ((getS a2).1 : Int)), .v (.int .i64 ((getS a3).1 : Int)), .v (.int .i64 ((getS a4).1 : Int))] 2 1), some (.one (.cons (.v (.int .i64 ((getS a1).1 : Int))) (.cons (.v (.int .i64 ((getS a2).1 : Int))) (.cons (.v (.int .i64 ((getS a3).1 : Int))) (.cons (.v (.int .i64 ((getS a4).1 : Int))) (.cons (.arr .u8 32 (fun _ => (0 : Int))) .nil))))))] rfl rfl rfl rfl
            · intro w0 A S0 f0
              refine aloL (m := 0) rfl rfl rfl rfl (fun i hi => ?_)
              rcases (show i = 0 by omega) with rfl <;> exact ⟨by kernel_rfl, by kernel_rfl⟩
            have hm32 : 32 = min (a5.map jc1).length 32 := by rw [List.length_map, c5]; rfl
            (repeat refine ja0 ?_); refine ke5 [2, 12] 5 (by kernel_rfl) ?_; intro w0 A S0 f0; simp only [List.take, List.drop]
            (repeat ((with_reducible show DRq _ _ _ (_ :: _) _); first | (refine cxq _ (envG _ _ _ _ _ _) rfl rfl rfl rfl rfl ?_ (hc := by first | exact ka)) | (refine sxq ?_))); refine jh2 ?_
            refine ex rfl (kv5 (d := gzD ((getS a1).1 : Int) ((getS a2).1 : Int) ((getS a3).1 : Int) ((getS a4).1 : Int) (fun _ => 0)) (k := .u8) (es := a5.map jc1) 32 (gzD ((getS a1).1 : Int) ((getS a2).1 : Int) ((getS a3).1 : Int) ((getS a4).1 : Int) (fun i => ((a5.getD i 0).toNat : Int))) (fun d hd => by obtain ⟨c, _, rfl⟩ := List.mem_map.1 hd; rfl) hm32 (Nat.le_refl 36) (by omega) rfl (by have := vd9 ((getS a1).1 : Int) ((getS a2).1 : Int) ((getS a3).1 : Int) ((getS a4).1 : Int) c5; rw [List.length_map, c5] at this; exact this) trivial rfl rfl rfl rfl rfl) ?_
            (repeat ((with_reducible show DR _ _ _ (_ :: _) _); first | (refine cx _ (envG _ _ _ _ _ _) rfl rfl rfl rfl rfl ?_ (hc := by first | exact ka))  | (refine sx ?_))); refine jb4 ?_; refine kl1 ?_
            (repeat refine ja0 ?_); refine kg0 [2, 3] [5] [none] [.dead] [(.cons (.v (.int .i64 ((getS a1).1 : Int))) (.cons (.v (.int .i64 ((getS a2).1 : Int))) (.cons (.v (.int .i64 ((getS a3).1 : Int))) (.cons (.v (.int .i64 ((getS a4).1 : Int))) (.cons (.arr .u8 32 (fun i => ((a5.getD i 0).toNat : Int))) .nil))))), (.cons (.v (.int .i64 ((getS a1).1 : Int))) (.cons (.v (.int .i64 ((getS a2).1 : Int))) (.cons (.v (.int .i64 ((getS a3).1 : Int))) (.cons (.v (.int .i64 ((getS a4).1 : Int))) (.cons (.arr .u8 32 (fun i => ((a5.getD i 0).toNat : Int))) .nil))))), (.cons (.cons (.v (.int .i64 ((getS a1).1 : Int))) (.cons (.v (.int .i64 ((getS a2).1 : Int))) (.cons (.v (.int .i64 ((getS a3).1 : Int))) (.cons (.v (.int .i64 ((getS a4).1 : Int))) (.cons (.arr .u8 32 (fun i => ((a5.getD i 0).toNat : Int))) .nil))))) (.cons (.v (.string (B []))) .nil)), (.v (.int .i64 q)), (.v (.bool (decide (q = 0)))), .dead, (.v (.bool (decide (q = 0))))] [[some (.one (.cons (.v (.int .i64 0)) (.cons (.v (.int .i64 0)) (.cons (.v (.int .i64 0)) (.cons (.v (.int .i64 0)) (.cons (.arr .u8 32 (fun _ => (0 : Int))) .nil)))))), some (.row [.v (.int .i64 ((getS a1).1 : Int)), .v (.int .i64 ((getS a2).1 : Int)), .v (.int .i64 ((getS a3).1 : Int)), .v (.int .i64 ((getS a4).1 : Int))] 2 1), some (.one (.cons (.v (.int .i64 ((getS a1).1 : Int))) (.cons (.v (.int .i64 ((getS a2).1 : Int))) (.cons (.v (.int .i64 ((getS a3).1 : Int))) (.cons (.v (.int .i64 ((getS a4).1 : Int))) (.cons (.arr .u8 32 (fun i => ((a5.getD i 0).toNat : Int))) .nil))))))], [some (.one (.cons (.v (.int .i64 ((getS a1).1 : Int))) (.cons (.v (.int .i64 ((getS a2).1 : Int))) (.cons (.v (.int .i64 ((getS a3).1 : Int))) (.cons (.v (.int .i64 ((getS a4).1 : Int))) (.cons (.arr .u8 32 (fun i => ((a5.getD i 0).toNat : Int))) .nil)))))), some (.row [.v (.int .i64 ((getS a1).1 : Int)), .v (.int .i64 ((getS a2).1 : Int)), .v (.int .i64 ((getS a3).1 : Int)), .v (.int .i64 ((getS a4).1 : Int))] 2 1), some (.one (.cons (.v (.int .i64 ((getS a1).1 : Int))) (.cons (.v (.int .i64 ((getS a2).1 : Int))) (.cons (.v (.int .i64 ((getS a3).1 : Int))) (.cons (.v (.int .i64 ((getS a4).1 : Int))) (.cons (.arr .u8 32 (fun i => ((a5.getD i 0).toNat : Int))) .nil))))))]] [(0, 0), (1, 0), (1, 1), (2, 0), (2, 1), (3, 0), (4, 0), (4, 1), (6, 1)] (by kernel_rfl) (by kernel_rfl) (l' := [(2, .ptr 0 0), (3, (.v (.bool (decide (q = 0)))))]) (h' := [some (.one (.cons (.v (.int .i64 ((getS a1).1 : Int))) (.cons (.v (.int .i64 ((getS a2).1 : Int))) (.cons (.v (.int .i64 ((getS a3).1 : Int))) (.cons (.v (.int .i64 ((getS a4).1 : Int))) (.cons (.arr .u8 32 (fun i => ((a5.getD i 0).toNat : Int))) .nil)))))), some (.row [.v (.int .i64 ((getS a1).1 : Int)), .v (.int .i64 ((getS a2).1 : Int)), .v (.int .i64 ((getS a3).1 : Int)), .v (.int .i64 ((getS a4).1 : Int))] 2 1), some (.one (.cons (.v (.int .i64 ((getS a1).1 : Int))) (.cons (.v (.int .i64 ((getS a2).1 : Int))) (.cons (.v (.int .i64 ((getS a3).1 : Int))) (.cons (.v (.int .i64 ((getS a4).1 : Int))) (.cons (.arr .u8 32 (fun i => ((a5.getD i 0).toNat : Int))) .nil))))))]) ?_ ?_ (by kernel_rfl) (by kernel_rfl) ?_
            · intro w0 A S0 f0
              refine ⟨?_, ?_, ?_, ?_, ?_, ?_, ?_, ?_, ?_, trivial⟩
              iterate 2 (exact qk1 [.ptr 2 0] [some (.one (.cons (.v (.int .i64 0)) (.cons (.v (.int .i64 0)) (.cons (.v (.int .i64 0)) (.cons (.v (.int .i64 0)) (.cons (.arr .u8 32 (fun _ => (0 : Int))) .nil)))))), some (.row [.v (.int .i64 ((getS a1).1 : Int)), .v (.int .i64 ((getS a2).1 : Int)), .v (.int .i64 ((getS a3).1 : Int)), .v (.int .i64 ((getS a4).1 : Int))] 2 1), some (.one (.cons (.v (.int .i64 ((getS a1).1 : Int))) (.cons (.v (.int .i64 ((getS a2).1 : Int))) (.cons (.v (.int .i64 ((getS a3).1 : Int))) (.cons (.v (.int .i64 ((getS a4).1 : Int))) (.cons (.arr .u8 32 (fun i => ((a5.getD i 0).toNat : Int))) .nil))))))] (.cons (.v (.int .i64 ((getS a1).1 : Int))) (.cons (.v (.int .i64 ((getS a2).1 : Int))) (.cons (.v (.int .i64 ((getS a3).1 : Int))) (.cons (.v (.int .i64 ((getS a4).1 : Int))) (.cons (.arr .u8 32 (fun i => ((a5.getD i 0).toNat : Int))) .nil))))) rfl rfl)
              · exact qk1 [.ptr 2 0] [some (.one (.cons (.v (.int .i64 ((getS a1).1 : Int))) (.cons (.v (.int .i64 ((getS a2).1 : Int))) (.cons (.v (.int .i64 ((getS a3).1 : Int))) (.cons (.v (.int .i64 ((getS a4).1 : Int))) (.cons (.arr .u8 32 (fun i => ((a5.getD i 0).toNat : Int))) .nil)))))), some (.row [.v (.int .i64 ((getS a1).1 : Int)), .v (.int .i64 ((getS a2).1 : Int)), .v (.int .i64 ((getS a3).1 : Int)), .v (.int .i64 ((getS a4).1 : Int))] 2 1), some (.one (.cons (.v (.int .i64 ((getS a1).1 : Int))) (.cons (.v (.int .i64 ((getS a2).1 : Int))) (.cons (.v (.int .i64 ((getS a3).1 : Int))) (.cons (.v (.int .i64 ((getS a4).1 : Int))) (.cons (.arr .u8 32 (fun i => ((a5.getD i 0).toNat : Int))) .nil))))))] (.cons (.v (.int .i64 ((getS a1).1 : Int))) (.cons (.v (.int .i64 ((getS a2).1 : Int))) (.cons (.v (.int .i64 ((getS a3).1 : Int))) (.cons (.v (.int .i64 ((getS a4).1 : Int))) (.cons (.arr .u8 32 (fun i => ((a5.getD i 0).toNat : Int))) .nil))))) rfl rfl
              iterate 2 (exact qk0 [(.cons (.v (.int .i64 ((getS a1).1 : Int))) (.cons (.v (.int .i64 ((getS a2).1 : Int))) (.cons (.v (.int .i64 ((getS a3).1 : Int))) (.cons (.v (.int .i64 ((getS a4).1 : Int))) (.cons (.arr .u8 32 (fun i => ((a5.getD i 0).toNat : Int))) .nil)))))] (.cons (.cons (.v (.int .i64 ((getS a1).1 : Int))) (.cons (.v (.int .i64 ((getS a2).1 : Int))) (.cons (.v (.int .i64 ((getS a3).1 : Int))) (.cons (.v (.int .i64 ((getS a4).1 : Int))) (.cons (.arr .u8 32 (fun i => ((a5.getD i 0).toNat : Int))) .nil))))) (.cons (.v (.string (B []))) .nil)) rfl rfl)
              · exact qokP [.fn 21 .nil, (.cons (.cons (.v (.int .i64 ((getS a1).1 : Int))) (.cons (.v (.int .i64 ((getS a2).1 : Int))) (.cons (.v (.int .i64 ((getS a3).1 : Int))) (.cons (.v (.int .i64 ((getS a4).1 : Int))) (.cons (.arr .u8 32 (fun i => ((a5.getD i 0).toNat : Int))) .nil))))) (.cons (.v (.string (B []))) .nil))] [some (.one (.cons (.v (.int .i64 0)) (.cons (.v (.int .i64 0)) (.cons (.v (.int .i64 0)) (.cons (.v (.int .i64 0)) (.cons (.arr .u8 32 (fun _ => (0 : Int))) .nil)))))), some (.row [.v (.int .i64 ((getS a1).1 : Int)), .v (.int .i64 ((getS a2).1 : Int)), .v (.int .i64 ((getS a3).1 : Int)), .v (.int .i64 ((getS a4).1 : Int))] 2 1), some (.one (.cons (.v (.int .i64 ((getS a1).1 : Int))) (.cons (.v (.int .i64 ((getS a2).1 : Int))) (.cons (.v (.int .i64 ((getS a3).1 : Int))) (.cons (.v (.int .i64 ((getS a4).1 : Int))) (.cons (.arr .u8 32 (fun i => ((a5.getD i 0).toNat : Int))) .nil))))))] (.v (.int .i64 q)) rfl (by kernel_rfl) (by kernel_rfl) (by kernel_rfl) rfl (jo9 (envG _ _ _ _ _ _) rfl rfl rfl (kc))
              iterate 2 (exact qk0 [(.v (.int .i64 q)), .v (.int .i64 0)] (.v (.bool (decide (q = 0)))) rfl rfl)
              · exact qk0 [(.v (.bool (decide (q = 0))))] (.v (.bool (decide (q = 0)))) rfl rfl
            · intro w0 A S0 f0
              refine lt1 ?_
              · exact es1 5 (.ptr 0 0) (.cons (.v (.int .i64 ((getS a1).1 : Int))) (.cons (.v (.int .i64 ((getS a2).1 : Int))) (.cons (.v (.int .i64 ((getS a3).1 : Int))) (.cons (.v (.int .i64 ((getS a4).1 : Int))) (.cons (.arr .u8 32 (fun i => ((a5.getD i 0).toNat : Int))) .nil))))) [some (.one (.cons (.v (.int .i64 0)) (.cons (.v (.int .i64 0)) (.cons (.v (.int .i64 0)) (.cons (.v (.int .i64 0)) (.cons (.arr .u8 32 (fun _ => (0 : Int))) .nil)))))), some (.row [.v (.int .i64 ((getS a1).1 : Int)), .v (.int .i64 ((getS a2).1 : Int)), .v (.int .i64 ((getS a3).1 : Int)), .v (.int .i64 ((getS a4).1 : Int))] 2 1), some (.one (.cons (.v (.int .i64 ((getS a1).1 : Int))) (.cons (.v (.int .i64 ((getS a2).1 : Int))) (.cons (.v (.int .i64 ((getS a3).1 : Int))) (.cons (.v (.int .i64 ((getS a4).1 : Int))) (.cons (.arr .u8 32 (fun i => ((a5.getD i 0).toNat : Int))) .nil))))))] [some (.one (.cons (.v (.int .i64 ((getS a1).1 : Int))) (.cons (.v (.int .i64 ((getS a2).1 : Int))) (.cons (.v (.int .i64 ((getS a3).1 : Int))) (.cons (.v (.int .i64 ((getS a4).1 : Int))) (.cons (.arr .u8 32 (fun i => ((a5.getD i 0).toNat : Int))) .nil)))))), some (.row [.v (.int .i64 ((getS a1).1 : Int)), .v (.int .i64 ((getS a2).1 : Int)), .v (.int .i64 ((getS a3).1 : Int)), .v (.int .i64 ((getS a4).1 : Int))] 2 1), some (.one (.cons (.v (.int .i64 ((getS a1).1 : Int))) (.cons (.v (.int .i64 ((getS a2).1 : Int))) (.cons (.v (.int .i64 ((getS a3).1 : Int))) (.cons (.v (.int .i64 ((getS a4).1 : Int))) (.cons (.arr .u8 32 (fun i => ((a5.getD i 0).toNat : Int))) .nil))))))] rfl rfl rfl rfl
            (repeat refine ja0 ?_); refine ja9 ?_; refine retx ?_; (try dsimp only [outV, ja8])
            exact ja7 rfl
        · have d5 : decide ((a5.length : Int) = 32) = false := decide_eq_false (by omega)
          rw [if_neg (fun h => c5 h.2.2.2.2.2.2.2)]
          have hX := And.intro jf3 (And.intro d5 (hc))
          (repeat (first | (refine gtx rfl rfl ?_) | (refine gx ?_) | ((with_reducible show DR _ _ _ (_ :: _) _); first | (refine cx _ (envG _ _ _ _ _ _) rfl rfl rfl rfl rfl ?_ (hc := by first | exact ka))  | (refine sx ?_)))); refine jb4 ?_; refine kl1 ?_
          (repeat refine ja0 ?_); refine iftx ?_
          (repeat refine ja0 ?_); refine rgx [2, 3] ?_
          (repeat refine ja0 ?_); refine ja9 ?_; refine retx ?_; (try dsimp only [outV, ja8])
          exact ja7 rfl
      · intro hc
        have cm : ¬ a0 = [99, 101, 114, 116] := by
          have hc2 := hc
          simp only [decide_eq_true_eq, decide_eq_false_iff_not, Bool.not_eq_true', Bool.not_eq_false', Int.not_lt, Int.not_le, ge_iff_le, gt_iff_lt, Classical.not_not, ne_eq, Bool.not_true, Bool.not_false, Int.natCast_inj, Int.ofNat_le, Int.ofNat_lt] at hc2
          first | exact hc2 | exact @of_decide_eq_false _ _ hc2
        rw [if_neg (fun h => cm h.2.2.1)]
        have hX := And.intro jf3 (hc)
        (repeat (first | (refine gtx rfl rfl ?_) | (refine gx ?_) | ((with_reducible show DR _ _ _ (_ :: _) _); first | (refine cx _ (envG _ _ _ _ _ _) rfl rfl rfl rfl rfl ?_ (hc := by first | exact ka))  | (refine sx ?_)))); refine jb4 ?_; refine kl1 ?_
        (repeat refine ja0 ?_); refine iftx ?_
        (repeat refine ja0 ?_); refine rgx [2, 3] ?_
        (repeat refine ja0 ?_); refine ja9 ?_; refine retx ?_; (try dsimp only [outV, ja8])
        exact ja7 rfl
    · have d1 : decide ((ls.length : Int) = 6) = false := decide_eq_false (by omega)
      rw [if_neg (fun h => c1 h.2.1)]
      have hX := and_true; refine jb6 Tryd.func68 rfl Tryd.ntmps68 Tryd.results68 rfl (by simp only [jb5, Nat.reduceAdd, u32D, u8D, iD, bD, strD, ja6, jb1, ja5, ja3, ja4, ja2, ja1, jb2, jb0]; exact rfl) ?_; intro w0 A
      have hX := And.intro jf3 (d1)
      have hK := And.intro (ka) trivial; (repeat refine ja0 ?_); refine rgx [0, 2] ?_
      (repeat refine ja0 ?_); refine rgx [2, 4, 5] ?_
      (repeat refine ja0 ?_); refine rggx [2, 4, 37] ?_
      (repeat refine ja0 ?_); refine iftx ?_
      (repeat refine ja0 ?_); refine rgx [2, 3] ?_
      (repeat refine ja0 ?_); refine ja9 ?_; refine retx ?_; (try dsimp only [outV, ja8])
      exact ja7 rfl
  · have d0 : decide (e = 0) = false := decide_eq_false c0
    rw [if_neg (fun h => c0 h.1)]
    have hX := and_true; refine jb6 Tryd.func68 rfl Tryd.ntmps68 Tryd.results68 rfl (by simp only [jb5, Nat.reduceAdd, u32D, u8D, iD, bD, strD, ja6, jb1, ja5, ja3, ja4, ja2, ja1, jb2, jb0]; exact rfl) ?_; intro w0 A
    have hX := And.intro jf3 (d0)
    have hK := And.intro (ka) trivial; (repeat refine ja0 ?_); refine rgx [0, 2] ?_
    (repeat refine ja0 ?_); refine rgx [2, 4, 5] ?_
    (repeat refine ja0 ?_); refine rggx [2, 4, 37] ?_
    (repeat refine ja0 ?_); refine iftx ?_
    (repeat refine ja0 ?_); refine rgx [2, 3] ?_
    (repeat refine ja0 ?_); refine ja9 ?_; refine retx ?_; (try dsimp only [outV, ja8])
    exact ja7 rfl
end Go.Proofs.YtcdnpmpjeeiapaaDoor
