/- One grant at a time, at each time: the law, walked. (Written by gen_bm.py.) -/
import Derived.Test.YtedioenakmgdiaaDoorBPD
import Derived.Test.YtedioenakmgdiaaDoorBR2
namespace Go.Proofs.YtedioenakmgdiaaDoor
set_option linter.unusedSimpArgs false
set_option linter.unusedVariables false
set_option maxRecDepth 10000
open Go.RowKit
set_option maxHeartbeats 16000000 in
/-- the grants of a server at a time are counted -/
theorem bookOneIn_w (b c : List Gr) (g : Gr) (sv at' : Int) (x : Gr) (y : Gr) (e2 e3 : Int) (p : Nat) (hcb : c.length = b.length + 1) (hcl : c.length ≤ 256) (hP : ∀ k, k < c.length → hitB (c.getD k gz) sv at' = decide (k = p)) (hp : p ≤ c.length) (he3 : e3 = if p < c.length then 0 else 3) (h23 : e2 = 0 → e3 = 0 ∧ x = y)
    (k1 : PC (envOf Tryd.prog) 44 [bkD b, grD g] (.tup (.cons (bkD c) (.cons (iD 0) .nil)))) (k2 : PC (envOf Tryd.prog) 53 [bkD b, iD sv, iD at'] (.tup (.cons (grD x) (.cons (iD e2) .nil)))) (k3 : PC (envOf Tryd.prog) 53 [bkD c, iD sv, iD at'] (.tup (.cons (grD y) (.cons (iD e3) .nil))))
    (k4 : PC (envOf Tryd.prog) 53 [bkD c, iD g.sv, iD g.fr] (.tup (.cons (grD g) (.cons (iD 0) .nil)))) (k5 : PC (envOf Tryd.prog) 53 [bkD c, iD g.sv, iD g.un] (.tup (.cons (grD g) (.cons (iD 0) .nil)))) (k6 : PC (envOf Tryd.prog) 47 [bkD c] (iD 0)) :
    PC (envOf Tryd.prog) 13 [bkD b, grD g, iD sv, iD at'] (bD true) := by
  have lv := lives06_c
  have hX := and_true; refine PC_atX Tryd.func13 rfl Tryd.ntmps13 Tryd.results13 rfl (by simp only [argsL, Nat.reduceAdd, u32D, u8D, iD, bD, strD, u32_xor, u32_or, u32_and, u32_add, u32_not, u32_shr, u32_shl, u8_u32, u32_u8]; exact rfl) ?_; intro w0 A
  have hX := And.intro grD_eq (deci)
  have hK := And.intro (lv) (And.intro (k1) (And.intro (k2) (And.intro (k3) (And.intro (k4) (And.intro (k5) (And.intro (k6) trivial)))))); (repeat refine DX_seq ?_); refine rgx [0, 2, 3, 5] ?_
  (repeat refine DX_seq ?_); refine rgx [0, 2, 3, 5, 23] ?_
  (repeat refine DX_seq ?_); refine iffx ?_
  (repeat refine DX_seq ?_); refine DX_skip ?_
  (repeat refine DX_seq ?_); refine rgx [0, 2, 3, 5, 9, 10] ?_
  (repeat refine DX_seq ?_); refine rgx [0, 2, 3, 5, 9, 31] ?_
  (repeat refine DX_seq ?_); refine iffx ?_
  (repeat refine DX_seq ?_); refine DX_skip ?_
  (repeat refine DX_seq ?_); refine rgx [0, 2, 3, 5, 9, 11, 12] ?_
  (repeat refine DX_seq ?_); refine rgx [0, 2, 3, 5, 9, 11, 12, 13, 14] ?_
  (repeat refine DX_seq ?_); refine rgx [0, 2, 3, 5, 9, 11, 12, 13, 14, 15, 16] ?_
  (repeat refine DX_seq ?_); refine rgx [0, 2, 3, 5, 9, 11, 12, 13, 14, 15, 16, 17, 18] ?_
  have dln : decide ((c.length : Int) = (b.length : Int) + 1) = true := decide_eq_true (by omega)
  have hbk : ∀ b : List Gr, bkD b = .sl b gz grD := fun _ => rfl
  (repeat refine DX_seq ?_); refine rgx [2, 3, 9, 14, 113] (l' := [(2, iD sv), (3, iD at'), (9, bkD c), (14, iD e3), (113, bD false)]) (h' := [some (.one (grD g)), some (.one (grD x)), some (.one (grD y)), some (.one (grD g)), some (.one (grD g))]) ?_ ?_
  rotate_left
  · intro w0 A S0 f0
    by_cases h0 : e2 = 0
    · obtain ⟨h3, rfl⟩ := h23 h0
      have d2 : decide (e2 = 0) = true := decide_eq_true h0
      have d3 : decide (e3 = 0) = true := decide_eq_true h3
      have hX := And.intro grD_eq (And.intro hbk (And.intro deci (And.intro decl (And.intro dln (And.intro d2 (And.intro d3 (Bool.not_true)))))))
      (repeat (first | (refine gtx rfl rfl ?_) | (refine gx ?_) | ((with_reducible show DR _ _ _ (_ :: _) _); first | (refine cx _ (envG _ _ _ _ _ _) rfl rfl rfl rfl rfl ?_ (hc := by first | exact lv | exact k1 | exact k2 | exact k3 | exact k4 | exact k5 | exact k6))  | (refine sx ?_)) | (refine eqsx 3 _ rfl rfl rfl rfl (.inr rfl) (by kernel_rfl) (by kernel_rfl) rfl ?_))); refine DR_nil ?_; refine kl1 ?_
      rfl
    · have d2 : decide (e2 = 0) = false := decide_eq_false h0
      have hX := And.intro grD_eq (And.intro hbk (And.intro deci (And.intro decl (And.intro dln (And.intro d2 (Bool.not_true))))))
      (repeat (first | (refine gtx rfl rfl ?_) | (refine gx ?_) | ((with_reducible show DR _ _ _ (_ :: _) _); first | (refine cx _ (envG _ _ _ _ _ _) rfl rfl rfl rfl rfl ?_ (hc := by first | exact lv | exact k1 | exact k2 | exact k3 | exact k4 | exact k5 | exact k6))  | (refine sx ?_)) | (refine eqsx 3 _ rfl rfl rfl rfl (.inr rfl) (by kernel_rfl) (by kernel_rfl) rfl ?_))); refine DR_nil ?_; refine kl1 ?_
      rfl
  (repeat refine DX_seq ?_); refine iffx ?_
  (repeat refine DX_seq ?_); refine DX_skip ?_
  have hX := And.intro hbk (and_true)
  (repeat refine DX_seq ?_); refine rgx [2, 3, 9, 14, 19] ?_
  (repeat refine DX_seq ?_); refine rgx [2, 3, 9, 14, 19, 114, 115, 116] ?_
  (repeat refine DX_seq ?_); refine DX_block ?_
  (repeat refine DX_seq ?_); refine DX_loop (fun m _ st => ∃ k, k + m = c.length ∧ st = mk [(2, iD sv), (3, iD at'), (9, bkD c), (14, iD e3), (19, iD (if p < k then 1 else 0)), (114, bkD c), (115, iD (c.length : Int)), (116, iD (k : Int))] [some (.one (grD g)), some (.one (grD x)), some (.one (grD y)), some (.one (grD g)), some (.one (grD g))]) c.length ⟨_, WeakX.refl _, 0, by omega, by rw [if_neg (Nat.not_lt_zero _)]; rfl⟩ ?_
  rintro m _ _ ⟨k, hk, rfl⟩
  have hX := And.intro hbk (and_true)
  (repeat refine DX_seq ?_); refine rgx [2, 3, 9, 14, 19, 114, 115, 116, 117] ?_
  (repeat refine DX_seq ?_); refine ifx ?_ ?_
  · intro hc; (try simp only [hcs, ne_eq] at hc)
    have hkn : k < c.length := by omega
    have hh := hP k hkn
    obtain ⟨x', hx⟩ : ∃ x', c.getD k gz = x' := ⟨_, rfl⟩
    rw [hx] at hh
    (repeat refine DX_seq ?_); refine DX_skip ?_
    (repeat refine DX_seq ?_); refine DX_block ?_
    have hX := And.intro hbk (And.intro grD_eq (hx))
    (repeat refine DX_seq ?_); refine rgx [2, 3, 9, 14, 19, 21, 114, 115, 116] ?_
    (repeat refine DX_seq ?_); refine rgx [2, 3, 9, 14, 19, 114, 115, 116, 135] (l' := [(2, iD sv), (3, iD at'), (9, bkD c), (14, iD e3), (19, iD (if p < k then 1 else 0)), (114, bkD c), (115, iD (c.length : Int)), (116, iD (k : Int)), (135, bD (hitB x' sv at'))]) (h' := [some (.one (grD g)), some (.one (grD x)), some (.one (grD y)), some (.one (grD g)), some (.one (grD g)), some (.one (grD x'))]) ?_ ?_
    rotate_left
    · intro w0 A S0 f0
      by_cases c0 : x'.sv = sv
      · have fc0 : decide (x'.sv = sv) = true := decide_eq_true c0
        by_cases c1 : x'.fr ≤ at'
        · have fc1 : decide (x'.fr ≤ at') = true := decide_eq_true c1
          by_cases c2 : at' ≤ x'.un
          · have fc2 : decide (at' ≤ x'.un) = true := decide_eq_true c2
            have hv : hitB x' sv at' = true := by simp only [hitB, fc0, fc1, fc2, Bool.true_and, Bool.false_and, Bool.and_true, Bool.and_false]
            have hX := And.intro grD_eq (And.intro fc0 (And.intro fc1 (fc2)))
            (repeat (first | (refine gtx rfl rfl ?_) | (refine gx ?_) | ((with_reducible show DR _ _ _ (_ :: _) _); first | (refine cx _ (envG _ _ _ _ _ _) rfl rfl rfl rfl rfl ?_ (hc := by first | exact lv | exact k1 | exact k2 | exact k3 | exact k4 | exact k5 | exact k6))  | (refine sx ?_)))); refine DR_nil ?_; refine kl1 ?_
            rw [hv]; rfl
          · have fc2 : decide (at' ≤ x'.un) = false := decide_eq_false c2
            have hv : hitB x' sv at' = false := by simp only [hitB, fc0, fc1, fc2, Bool.true_and, Bool.false_and, Bool.and_true, Bool.and_false]
            have hX := And.intro grD_eq (And.intro fc0 (And.intro fc1 (fc2)))
            (repeat (first | (refine gtx rfl rfl ?_) | (refine gx ?_) | ((with_reducible show DR _ _ _ (_ :: _) _); first | (refine cx _ (envG _ _ _ _ _ _) rfl rfl rfl rfl rfl ?_ (hc := by first | exact lv | exact k1 | exact k2 | exact k3 | exact k4 | exact k5 | exact k6))  | (refine sx ?_)))); refine DR_nil ?_; refine kl1 ?_
            rw [hv]; rfl
        · have fc1 : decide (x'.fr ≤ at') = false := decide_eq_false c1
          have hv : hitB x' sv at' = false := by simp only [hitB, fc0, fc1, Bool.true_and, Bool.false_and, Bool.and_true, Bool.and_false]
          have hX := And.intro grD_eq (And.intro fc0 (fc1))
          (repeat (first | (refine gtx rfl rfl ?_) | (refine gx ?_) | ((with_reducible show DR _ _ _ (_ :: _) _); first | (refine cx _ (envG _ _ _ _ _ _) rfl rfl rfl rfl rfl ?_ (hc := by first | exact lv | exact k1 | exact k2 | exact k3 | exact k4 | exact k5 | exact k6))  | (refine sx ?_)))); refine DR_nil ?_; refine kl1 ?_
          rw [hv]; rfl
      · have fc0 : decide (x'.sv = sv) = false := decide_eq_false c0
        have hv : hitB x' sv at' = false := by simp only [hitB, fc0, Bool.true_and, Bool.false_and, Bool.and_true, Bool.and_false]
        have hX := And.intro grD_eq (fc0)
        (repeat (first | (refine gtx rfl rfl ?_) | (refine gx ?_) | ((with_reducible show DR _ _ _ (_ :: _) _); first | (refine cx _ (envG _ _ _ _ _ _) rfl rfl rfl rfl rfl ?_ (hc := by first | exact lv | exact k1 | exact k2 | exact k3 | exact k4 | exact k5 | exact k6))  | (refine sx ?_)))); refine DR_nil ?_; refine kl1 ?_
        rw [hv]; rfl
    rw [hh]
    by_cases hkp : k = p
    · rw [decide_eq_true hkp]
      have e1 : (if p < k then (1 : Int) else 0) = 0 := if_neg (by omega)
      have e2' : (if p < k + 1 then (1 : Int) else 0) = 1 := if_pos (by omega)
      rw [e1]
      (repeat refine DX_seq ?_); refine iftx ?_
      (repeat refine DX_seq ?_); refine rgx [2, 3, 9, 14, 19, 114, 115, 116] ?_
      (repeat refine DX_seq ?_); refine rgx [2, 3, 9, 14, 19, 114, 115, 116] ?_
      refine ⟨_, m - 1, WeakX.take 5 rfl rfl rfl, by omega, k + 1, by omega, ?_⟩
      rw [e2']
      first | rfl | simp [iD, bkD]
    · rw [decide_eq_false hkp]
      have e1 : (if p < k + 1 then (1 : Int) else 0) = (if p < k then (1 : Int) else 0) := by
        by_cases h : p < k
        · rw [if_pos h, if_pos (by omega)]
        · rw [if_neg h, if_neg (by omega)]
      (repeat refine DX_seq ?_); refine iffx ?_
      (repeat refine DX_seq ?_); refine DX_skip ?_
      generalize (if p < k then (1 : Int) else 0) = w at *
      (repeat refine DX_seq ?_); refine rgx [2, 3, 9, 14, 19, 114, 115, 116] ?_
      refine ⟨_, m - 1, WeakX.take 5 rfl rfl rfl, by omega, k + 1, by omega, ?_⟩
      rw [e1]
      first | rfl | simp [iD, bkD]
  · intro hc; (try simp only [hcs, ne_eq] at hc)
    obtain rfl : k = c.length := by omega
    (repeat refine DX_seq ?_); refine DX_exit ?_
    by_cases hp1 : p < c.length
    · rw [if_pos hp1] at he3 ⊢
      subst he3
      have hX := And.intro hbk (and_true)
      (repeat refine DX_seq ?_); refine rggx [8] ?_
      (repeat refine DX_seq ?_); refine DX_ret ?_; refine retx ?_; (try dsimp only [outV, unlist])
      exact Fin_pure rfl
    · rw [if_neg hp1] at he3 ⊢
      subst he3
      have hX := And.intro hbk (and_true)
      (repeat refine DX_seq ?_); refine rggx [8] ?_
      (repeat refine DX_seq ?_); refine DX_ret ?_; refine retx ?_; (try dsimp only [outV, unlist])
      exact Fin_pure rfl
set_option maxHeartbeats 16000000 in
theorem bookOneNo_w (b c : List Gr) (g : Gr) (sv at' : Int) (e q : Int) (he : e ≠ 0) (hq : q = 2 ∧ c = [] ∨ q ≠ 2 ∧ c = b) (hcl : c.length ≤ 257) (k1 : PC (envOf Tryd.prog) 44 [bkD b, grD g] (.tup (.cons (bkD c) (.cons (iD e) .nil)))) (k2 : PC (envOf Tryd.prog) 47 [bkD b] (iD q)) :
    PC (envOf Tryd.prog) 13 [bkD b, grD g, iD sv, iD at'] (bD true) := by
  have lv := lives06_c
  have d0 : decide (e = 0) = false := decide_eq_false he
  have hbk : ∀ b : List Gr, bkD b = .sl b gz grD := fun _ => rfl
  have hX := and_true; refine PC_atX Tryd.func13 rfl Tryd.ntmps13 Tryd.results13 rfl (by simp only [argsL, Nat.reduceAdd, u32D, u8D, iD, bD, strD, u32_xor, u32_or, u32_and, u32_add, u32_not, u32_shr, u32_shl, u8_u32, u32_u8]; exact rfl) ?_; intro w0 A
  have hX := And.intro grD_eq (And.intro d0 (Bool.not_false))
  have hK := And.intro (lv) (And.intro (k1) (And.intro (k2) trivial)); (repeat refine DX_seq ?_); refine rgx [0, 2, 3, 5] ?_
  (repeat refine DX_seq ?_); refine rgx [0, 2, 3, 5, 23] ?_
  (repeat refine DX_seq ?_); refine iffx ?_
  (repeat refine DX_seq ?_); refine DX_skip ?_
  (repeat refine DX_seq ?_); refine rgx [0, 2, 3, 5, 9, 10] ?_
  (repeat refine DX_seq ?_); refine rgx [0, 2, 3, 5, 9, 31] ?_
  (repeat refine DX_seq ?_); refine iftx ?_
  rcases hq with ⟨rfl, rfl⟩ | ⟨hq, rfl⟩
  · skip
    have hX := And.intro hbk (and_true)
    (repeat refine DX_seq ?_); refine rggx [8] ?_
    (repeat refine DX_seq ?_); refine DX_ret ?_; refine retx ?_; (try dsimp only [outV, unlist])
    exact Fin_pure rfl
  · have d1 : decide (q = 2) = false := decide_eq_false hq
    have k3 := sameG_c c c (by omega) (fun i _ _ => by rw [eqG_refl, decide_eq_true rfl])
    rw [decide_eq_true rfl] at k3
    have hX := And.intro d1 (and_true)
    have hK := And.intro (k2) (And.intro (k3) trivial); (repeat refine DX_seq ?_); refine rggx [8] ?_
    (repeat refine DX_seq ?_); refine DX_ret ?_; refine retx ?_; (try dsimp only [outV, unlist])
    exact Fin_pure rfl
theorem bookOne_w (b : List Gr) (g : Gr) (sv at' : Int) : PC (envOf Tryd.prog) 13 [bkD b, grD g, iD sv, iD at'] (bD true) := by
  have k1 := bkadd_c b g
  have hal := addGs_len b g
  unfold beD at k1
  by_cases he : addE b g = 0
  · obtain ⟨h1, h2, h3, h4, h5, h6, h7, h8, h9⟩ := ins_finds he sv at'
    rw [h1, he] at k1
    have k2 := find_c b sv at'
    have k3 := find_c (insS b g) sv at'
    have k4 := find_c (insS b g) g.sv g.fr
    have k5 := find_c (insS b g) g.sv g.un
    have k6 := check_c (insS b g)
    rw [h5.1, h5.2] at k4
    rw [h6.1, h6.2] at k5
    rw [h2] at k6
    unfold geD at k2 k3 k4 k5
    exact bookOneIn_w b (insS b g) g sv at' _ _ _ _ (hitN (insS b g) sv at') h3 h4 h8 (hitN_le _ _ _) h9 (fun h => ⟨(h7 h).1, (h7 h).2.symm⟩) k1 k2 k3 k4 k5 k6
  · refine bookOneNo_w b (addGs b g) g sv at' _ (chkS b) he ?_ hal k1 (check_c b)
    by_cases hc : chkS b = 0
    · exact .inr ⟨by rw [hc]; decide, addE_same hc he⟩
    · exact .inl ⟨chk_two hc, addGs_no hc⟩
end Go.Proofs.YtedioenakmgdiaaDoor
