/- A grant of a server at a time is found. (Written by gen_bh.py.) A book's servers. (Written by gen_bi.py.) Books compared; texts verified by a grant. (Written by gen_bj.py.) Calls whose arguments stand for others; two things as they are written down. It speaks of no program of ours. Answers that the document gives for books. (Written by gen_bl.py.) A grant is added to a book, as the document says. (Written by gen_bg.py.) One grant at a time, at each time: plain laws of books. Laws of books, walked: a grant comes, is found. (Written by gen_bm.py.) How long a list may be that is given: what the form's own reach says. It speaks of no program of ours. Grants, as they are given. -/
import Derived.Test.YtedioenakmgdiaaDoorBPD
import Derived.Test.YtedioenakmgdiaaDoorBR1
import Derived.Test.YtedioenakmgdiaaDoorBPS
import Derived.Test.YtedioenakmgdiaaDoorBPI
import Derived.SizedLaws
import Derived.Test.YtedioenakmgdiaaDoorBR0
namespace Go.Proofs.YtedioenakmgdiaaDoor
set_option linter.unusedSimpArgs false
set_option linter.unusedVariables false
set_option maxRecDepth 10000
open Go.RowKit
def hitB (g : Gr) (sv at' : Int) : Bool := decide (g.sv = sv) && (decide (g.fr ≤ at') && decide (at' ≤ g.un))
/-- the first grant of a server at a time -/
def hitN (b : List Gr) (sv at' : Int) : Nat := b.findIdx (fun g => hitB g sv at')
theorem hitN_le (b : List Gr) (sv at' : Int) : hitN b sv at' ≤ b.length := List.findIdx_le_length
theorem hitN_spec (b : List Gr) (sv at' : Int) : ∀ k, k < b.length → k ≤ hitN b sv at' → hitB (b.getD k gz) sv at' = decide (k = hitN b sv at') := fun k hk hp => by
  rcases Nat.lt_or_eq_of_le hp with h1 | h1
  · rw [decide_eq_false (by omega)]
    have := List.not_of_lt_findIdx (p := fun g => hitB g sv at') (xs := b) h1
    rw [List.getD_eq_getElem?_getD, List.getElem?_eq_getElem hk]
    simpa using this
  · rw [decide_eq_true h1]
    have h2 := List.findIdx_getElem (p := fun g => hitB g sv at') (xs := b) (w := by unfold hitN at h1; omega)
    rw [List.getD_eq_getElem?_getD, List.getElem?_eq_getElem hk]
    unfold hitN at h1
    subst h1
    exact h2
def findG (b : List Gr) (sv at' : Int) : Gr := if chkS b = 0 then b.getD (hitN b sv at') gz else gz
def findE (b : List Gr) (sv at' : Int) : Int := if chkS b = 0 then (if hitN b sv at' < b.length then 0 else 3) else 2
/-- a grant, and why there is none -/
def geD (g : Gr) (e : Int) : D := .tup (.cons (grD g) (.cons (iD e) .nil))
theorem geD_eq (g : Gr) (e : Int) : geD g e = .tup (.cons (grD g) (.cons (iD e) .nil)) := rfl
theorem gz_eq : grD gz = .cons (.v (.int .i64 0)) (.cons (.v (.int .i64 0)) (.cons (.v (.int .i64 0)) (.cons (.v (.int .i64 0)) (.cons (.arr .u8 32 (fun _ => (0 : Int))) .nil)))) := rfl
def clD (sv at' : Int) : D := .fn 87 (listD [.ip (iD sv), .ip (iD at')])
theorem clD_eq (sv at' : Int) : clD sv at' = .fn 87 (.cons (.ip (.v (.int .i64 sv))) (.cons (.ip (.v (.int .i64 at'))) .nil)) := rfl
set_option maxHeartbeats 8000000 in
theorem hit_c (g : Gr) (sv at' : Int) : PC (envOf Tryd.prog) 87 [grD g, .ip (iD sv), .ip (iD at')] (bD (hitB g sv at')) := by
  by_cases c0 : g.sv = sv
  · have fc0 : decide (g.sv = sv) = true := decide_eq_true c0
    by_cases c1 : g.fr ≤ at'
    · have fc1 : decide (g.fr ≤ at') = true := decide_eq_true c1
      by_cases c2 : at' ≤ g.un
      · have fc2 : decide (at' ≤ g.un) = true := decide_eq_true c2
        rw [show hitB g sv at' = true by simp only [hitB, fc0, fc1, fc2, Bool.true_and, Bool.false_and, Bool.and_true, Bool.and_false]]
        have hX := and_true; refine PC_atX Tryd.func87 rfl Tryd.ntmps87 Tryd.results87 rfl (by simp only [argsL, Nat.reduceAdd, u32D, u8D, iD, bD, strD, u32_xor, u32_or, u32_and, u32_add, u32_not, u32_shr, u32_shl, u8_u32, u32_u8]; exact rfl) ?_; intro w0 A
        have hX := And.intro grD_eq (And.intro fc0 (And.intro fc1 (fc2)))
        (repeat refine DX_seq ?_); refine rgx [1, 2, 3] ?_
        (repeat refine DX_seq ?_); refine rggx [4] ?_
        (repeat refine DX_seq ?_); refine DX_ret ?_; refine retx ?_; (try dsimp only [outV, unlist])
        exact Fin_pure rfl
      · have fc2 : decide (at' ≤ g.un) = false := decide_eq_false c2
        rw [show hitB g sv at' = false by simp only [hitB, fc0, fc1, fc2, Bool.true_and, Bool.false_and, Bool.and_true, Bool.and_false]]
        have hX := and_true; refine PC_atX Tryd.func87 rfl Tryd.ntmps87 Tryd.results87 rfl (by simp only [argsL, Nat.reduceAdd, u32D, u8D, iD, bD, strD, u32_xor, u32_or, u32_and, u32_add, u32_not, u32_shr, u32_shl, u8_u32, u32_u8]; exact rfl) ?_; intro w0 A
        have hX := And.intro grD_eq (And.intro fc0 (And.intro fc1 (fc2)))
        (repeat refine DX_seq ?_); refine rgx [1, 2, 3] ?_
        (repeat refine DX_seq ?_); refine rggx [4] ?_
        (repeat refine DX_seq ?_); refine DX_ret ?_; refine retx ?_; (try dsimp only [outV, unlist])
        exact Fin_pure rfl
    · have fc1 : decide (g.fr ≤ at') = false := decide_eq_false c1
      rw [show hitB g sv at' = false by simp only [hitB, fc0, fc1, Bool.true_and, Bool.false_and, Bool.and_true, Bool.and_false]]
      have hX := and_true; refine PC_atX Tryd.func87 rfl Tryd.ntmps87 Tryd.results87 rfl (by simp only [argsL, Nat.reduceAdd, u32D, u8D, iD, bD, strD, u32_xor, u32_or, u32_and, u32_add, u32_not, u32_shr, u32_shl, u8_u32, u32_u8]; exact rfl) ?_; intro w0 A
      have hX := And.intro grD_eq (And.intro fc0 (fc1))
      (repeat refine DX_seq ?_); refine rgx [1, 2, 3] ?_
      (repeat refine DX_seq ?_); refine rggx [4] ?_
      (repeat refine DX_seq ?_); refine DX_ret ?_; refine retx ?_; (try dsimp only [outV, unlist])
      exact Fin_pure rfl
  · have fc0 : decide (g.sv = sv) = false := decide_eq_false c0
    rw [show hitB g sv at' = false by simp only [hitB, fc0, Bool.true_and, Bool.false_and, Bool.and_true, Bool.and_false]]
    have hX := and_true; refine PC_atX Tryd.func87 rfl Tryd.ntmps87 Tryd.results87 rfl (by simp only [argsL, Nat.reduceAdd, u32D, u8D, iD, bD, strD, u32_xor, u32_or, u32_and, u32_add, u32_not, u32_shr, u32_shl, u8_u32, u32_u8]; exact rfl) ?_; intro w0 A
    have hX := And.intro grD_eq (fc0)
    (repeat refine DX_seq ?_); refine rgx [1, 2, 3] ?_
    (repeat refine DX_seq ?_); refine rggx [4] ?_
    (repeat refine DX_seq ?_); refine DX_ret ?_; refine retx ?_; (try dsimp only [outV, unlist])
    exact Fin_pure rfl
def idxI (b : List Gr) (sv at' : Int) : Int := if hitN b sv at' < b.length then (hitN b sv at' : Int) else -1
set_option maxHeartbeats 8000000 in
theorem idx_c (b : List Gr) (sv at' : Int) (hb : b.length ≤ 256) : PC (envOf Tryd.prog) 86 [bkD b, clD sv at'] (iD (idxI b sv at')) := by
  have hle := hitN_le b sv at'
  have hP := hitN_spec b sv at'
  unfold idxI
  generalize hitN b sv at' = p at *
  have hX := and_true; refine PC_atX Tryd.func86 rfl Tryd.ntmps86 Tryd.results86 rfl (by simp only [argsL, Nat.reduceAdd, u32D, u8D, iD, bD, strD, u32_xor, u32_or, u32_and, u32_add, u32_not, u32_shr, u32_shl, u8_u32, u32_u8]; exact rfl) ?_; intro w0 A
  have hX := And.intro bkD_eq (And.intro clD_eq (and_true))
  (repeat refine DX_seq ?_); refine rgx [0, 1] ?_
  (repeat refine DX_seq ?_); refine rgx [0, 1, 7, 8] ?_
  (repeat refine DX_seq ?_); refine DX_block ?_
  (repeat refine DX_seq ?_); refine DX_loop (fun m _ st => ∃ k, k + m = b.length ∧ k ≤ p ∧ st = mk [(0, bkD b), (1, clD sv at'), (7, iD (b.length : Int)), (8, iD (k : Int))] []) b.length ⟨_, WeakX.refl _, 0, by omega, by omega, rfl⟩ ?_
  rintro m _ _ ⟨k, hk, hkp, rfl⟩
  have hX := And.intro bkD_eq (And.intro clD_eq (and_true))
  (repeat refine DX_seq ?_); refine rgx [0, 1, 7, 8, 9] ?_
  (repeat refine DX_seq ?_); refine ifx ?_ ?_
  · intro hc; (try simp only [hcs, ne_eq] at hc)
    have hkn : k < b.length := by omega
    have hh := hP k hkn hkp
    obtain ⟨x, hx⟩ : ∃ x, b.getD k gz = x := ⟨_, rfl⟩
    have kh := hit_c x sv at'
    rw [hx] at hh
    rw [hh] at kh
    clear hP
    (repeat refine DX_seq ?_); refine DX_skip ?_
    (repeat refine DX_seq ?_); refine DX_block ?_
    have hX := And.intro bkD_eq (And.intro clD_eq (hx))
    (repeat refine DX_seq ?_); refine rgx [0, 1, 5, 7, 8] ?_
    (repeat refine DX_seq ?_); refine DX_reg [0, 1, 5, 7, 8, 16] ?_; intro w0 A S0 f0
    iterate 5 ((with_reducible show DR _ _ _ (_ :: _) _); first | (refine cx _ (envG _ _ _ _ _ _) rfl rfl rfl rfl rfl ?_ (hc := by first | fail))  | (refine sx ?_))
    refine cfx [.ip (iD sv), .ip (iD at')] _ (envG _ _ _ _ _ _) rfl rfl rfl rfl rfl kh rfl rfl ?_
    refine DR_nil ?_; refine kl1 ?_
    by_cases hkq : k = p
    · rw [decide_eq_true hkq]
      subst hkq
      rw [if_pos hkn]
      (repeat refine DX_seq ?_); refine iftx ?_
      (repeat refine DX_seq ?_); refine rgx [4] ?_
      (repeat refine DX_seq ?_); refine DX_ret ?_; refine retx ?_; (try dsimp only [outV, unlist])
      exact Fin_pure rfl
    · rw [decide_eq_false hkq]
      (repeat refine DX_seq ?_); refine iffx ?_
      (repeat refine DX_seq ?_); refine DX_skip ?_
      (repeat refine DX_seq ?_); refine rgx [0, 1, 7, 8] ?_
      refine ⟨_, m - 1, WeakX.take 4 rfl rfl rfl, by omega, k + 1, by omega, by omega, ?_⟩
      first | rfl | simp [iD, bkD, clD]
  · intro hc; (try simp only [hcs, ne_eq] at hc)
    obtain rfl : p = b.length := by omega
    rw [if_neg (Nat.lt_irrefl _)]
    (repeat refine DX_seq ?_); refine DX_exit ?_
    (repeat refine DX_seq ?_); refine rgx [4] ?_
    (repeat refine DX_seq ?_); refine DX_ret ?_; refine retx ?_; (try dsimp only [outV, unlist])
    exact Fin_pure rfl
theorem idxI_neg (b : List Gr) (sv at' : Int) : decide (idxI b sv at' < 0) = !decide (hitN b sv at' < b.length) := by
  unfold idxI
  by_cases h : hitN b sv at' < b.length
  · rw [if_pos h, decide_eq_true h]; exact decide_eq_false (by omega)
  · rw [if_neg h, decide_eq_false h]; rfl
set_option maxHeartbeats 8000000 in
theorem find_c (b : List Gr) (sv at' : Int) : PC (envOf Tryd.prog) 53 [bkD b, iD sv, iD at'] (geD (findG b sv at') (findE b sv at')) := by
  have kc := check_c b
  unfold findG findE
  by_cases hc : chkS b = 0
  · have hn := idxI_neg b sv at'
    obtain ⟨hlb, _⟩ := chk_good hc
    have kx := idx_c b sv at' hlb
    have hid : hitN b sv at' < b.length → idxI b sv at' = (hitN b sv at' : Int) := fun h => if_pos h
    rw [if_pos hc, if_pos hc]
    rw [hc] at kc
    generalize idxI b sv at' = i at *
    generalize hitN b sv at' = p at *
    have hX := and_true; refine PC_atX Tryd.func53 rfl Tryd.ntmps53 Tryd.results53 rfl (by simp only [argsL, Nat.reduceAdd, u32D, u8D, iD, bD, strD, u32_xor, u32_or, u32_and, u32_add, u32_not, u32_shr, u32_shl, u8_u32, u32_u8]; exact rfl) ?_; intro w0 A
    have hX := And.intro bkD_eq (and_true)
    have hK := And.intro (kc) trivial; (repeat refine DX_seq ?_); refine rgx [0, 4, 5, 6] ?_
    (repeat refine DX_seq ?_); refine rgx [0, 4, 5, 6, 8] ?_
    (repeat refine DX_seq ?_); refine rgx [0, 4, 5, 6, 8, 13] ?_
    (repeat refine DX_seq ?_); refine iffx ?_
    (repeat refine DX_seq ?_); refine DX_skip ?_
    (repeat refine DX_seq ?_); refine DX_reg [0, 6, 9] ?_; intro w0 A S0 f0
    iterate 2 ((with_reducible show DR _ _ _ (_ :: _) _); first | (refine cx _ (envG _ _ _ _ _ _) rfl rfl rfl rfl rfl ?_ (hc := by first | exact kc))  | (refine sx ?_))
    refine clx (d := iD i) (ys := [bkD b, clD sv at']) _ (envG _ _ _ _ _ _) (.cons (LeP.refl rfl).le (.cons (Le_fn (cs := [.ptr 0 0, .ptr 1 0]) (cs' := [.ip (iD sv), .ip (iD at')]) rfl rfl (.cons (Le_ptr rfl rfl) (.cons (Le_ptr rfl rfl) .nil))) .nil)) kx rfl rfl rfl rfl rfl rfl ?_
    (repeat ((with_reducible show DR _ _ _ (_ :: _) _); first | (refine cx _ (envG _ _ _ _ _ _) rfl rfl rfl rfl rfl ?_ (hc := by first | exact kc))  | (refine sx ?_))); refine DR_nil ?_; refine kl1 ?_
    by_cases hp : p < b.length
    · obtain rfl := hid hp
      rw [decide_eq_true hp] at hn
      rw [if_pos hp]
      obtain ⟨x, hx⟩ : ∃ x, b.getD p gz = x := ⟨_, rfl⟩
      rw [hx]
      have hX := And.intro bkD_eq (And.intro hn (And.intro hx (Bool.not_true)))
      (repeat refine DX_seq ?_); refine rgx [0, 6, 9, 20] ?_
      (repeat refine DX_seq ?_); refine iffx ?_
      (repeat refine DX_seq ?_); refine DX_skip ?_
      (repeat refine DX_seq ?_); refine rgx [6, 7] ?_
      (repeat refine DX_seq ?_); refine DX_ret ?_; refine retx ?_; (try dsimp only [outV, unlist])
      exact Fin_pure rfl
    · rw [decide_eq_false hp] at hn
      rw [if_neg hp, show b.getD p gz = gz by rw [List.getD_eq_getElem?_getD, List.getElem?_eq_none (by omega)]; rfl]
      have hX := And.intro bkD_eq (And.intro hn (Bool.not_false))
      (repeat refine DX_seq ?_); refine rgx [0, 6, 9, 20] ?_
      (repeat refine DX_seq ?_); refine iftx ?_
      (repeat refine DX_seq ?_); refine DX_reg [6, 7] ?_; intro w0 A S0 f0; refine qx _ rfl rfl rfl ?_ (hp := by intro d hd; simp only [List.mem_cons, List.not_mem_nil, or_false] at hd; rcases hd with rfl | rfl | rfl | rfl | rfl <;> first | trivial | exact ⟨rfl, rfl⟩); (repeat ((with_reducible show DR _ _ _ (_ :: _) _); first | (refine cx _ (envG _ _ _ _ _ _) rfl rfl rfl rfl rfl ?_ (hc := by first | exact kc))  | (refine sx ?_))); refine DR_nil ?_; refine kl1 ?_
      (repeat refine DX_seq ?_); refine DX_ret ?_; refine retx ?_; (try dsimp only [outV, unlist])
      exact Fin_pure rfl
  · rw [chk_two hc] at kc
    rw [if_neg hc, if_neg hc]
    have hX := and_true; refine PC_atX Tryd.func53 rfl Tryd.ntmps53 Tryd.results53 rfl (by simp only [argsL, Nat.reduceAdd, u32D, u8D, iD, bD, strD, u32_xor, u32_or, u32_and, u32_add, u32_not, u32_shr, u32_shl, u8_u32, u32_u8]; exact rfl) ?_; intro w0 A
    have hX := And.intro bkD_eq (and_true)
    have hK := And.intro (kc) trivial; (repeat refine DX_seq ?_); refine rgx [0, 4, 5, 6] ?_
    (repeat refine DX_seq ?_); refine rgx [0, 4, 5, 6, 8] ?_
    (repeat refine DX_seq ?_); refine rgx [0, 4, 5, 6, 8, 13] ?_
    (repeat refine DX_seq ?_); refine iftx ?_
    (repeat refine DX_seq ?_); refine DX_reg [6, 7] ?_; intro w0 A S0 f0; refine qx _ rfl rfl rfl ?_ (hp := by intro d hd; simp only [List.mem_cons, List.not_mem_nil, or_false] at hd; rcases hd with rfl | rfl | rfl | rfl | rfl <;> first | trivial | exact ⟨rfl, rfl⟩); (repeat ((with_reducible show DR _ _ _ (_ :: _) _); first | (refine cx _ (envG _ _ _ _ _ _) rfl rfl rfl rfl rfl ?_ (hc := by first | exact kc))  | (refine sx ?_))); refine DR_nil ?_; refine kl1 ?_
    (repeat refine DX_seq ?_); refine DX_ret ?_; refine retx ?_; (try dsimp only [outV, unlist])
    exact Fin_pure rfl
set_option maxHeartbeats 8000000 in
theorem reffind_c (b : List Gr) (sv at' : Int) : PC (envOf Tryd.prog) 54 [bkD b, iD sv, iD at'] (geD (findG b sv at') (findE b sv at')) := by
  have kc := refcheck_c b
  unfold findG findE
  by_cases hc : chkS b = 0
  · have hle := hitN_le b sv at'
    have hP := hitN_spec b sv at'
    obtain ⟨hlb, _⟩ := chk_good hc
    rw [if_pos hc, if_pos hc]
    rw [hc] at kc
    generalize hitN b sv at' = p at *
    have hX := and_true; refine PC_atX Tryd.func54 rfl Tryd.ntmps54 Tryd.results54 rfl (by simp only [argsL, Nat.reduceAdd, u32D, u8D, iD, bD, strD, u32_xor, u32_or, u32_and, u32_add, u32_not, u32_shr, u32_shl, u8_u32, u32_u8]; exact rfl) ?_; intro w0 A
    have hX := And.intro bkD_eq (and_true)
    have hK := And.intro (kc) trivial; (repeat refine DX_seq ?_); refine rgx [0, 1, 2, 6] ?_
    (repeat refine DX_seq ?_); refine rgx [0, 1, 2, 6, 12] ?_
    (repeat refine DX_seq ?_); refine iffx ?_
    (repeat refine DX_seq ?_); refine DX_skip ?_
    (repeat refine DX_seq ?_); refine rgx [1, 2, 6, 14, 15, 16] ?_
    (repeat refine DX_seq ?_); refine DX_block ?_
    (repeat refine DX_seq ?_); refine DX_loop (fun m _ st => ∃ k, k + m = b.length ∧ k ≤ p ∧ st = mk [(1, iD sv), (2, iD at'), (6, .ptr 0 0), (14, bkD b), (15, iD (b.length : Int)), (16, iD (k : Int))] [some (.one (grD gz))]) b.length ⟨_, WeakX.refl _, 0, by omega, by omega, rfl⟩ ?_
    rintro m _ _ ⟨k, hk, hkp, rfl⟩
    have hX := And.intro bkD_eq (and_true)
    (repeat refine DX_seq ?_); refine rgx [1, 2, 6, 14, 15, 16, 17] ?_
    (repeat refine DX_seq ?_); refine ifx ?_ ?_
    · intro hc; (try simp only [hcs, ne_eq] at hc)
      have hkn : k < b.length := by omega
      have hh := hP k hkn hkp
      obtain ⟨x, hx⟩ : ∃ x, b.getD k gz = x := ⟨_, rfl⟩
      rw [hx] at hh
      clear hP
      (repeat refine DX_seq ?_); refine DX_skip ?_
      (repeat refine DX_seq ?_); refine DX_block ?_
      have hX := And.intro bkD_eq (And.intro grD_eq (hx))
      (repeat refine DX_seq ?_); refine rgx [1, 2, 6, 9, 14, 15, 16] ?_
      (repeat refine DX_seq ?_); refine rgx [1, 2, 6, 9, 14, 15, 16, 35] (l' := [(1, iD sv), (2, iD at'), (6, .ptr 0 0), (9, .ptr 1 0), (14, bkD b), (15, iD (b.length : Int)), (16, iD (k : Int)), (35, bD (hitB x sv at'))]) (h' := [some (.one (grD gz)), some (.one (grD x))]) ?_ ?_
      rotate_left
      · intro w0 A S0 f0
        by_cases c0 : x.sv = sv
        · have fc0 : decide (x.sv = sv) = true := decide_eq_true c0
          by_cases c1 : x.fr ≤ at'
          · have fc1 : decide (x.fr ≤ at') = true := decide_eq_true c1
            by_cases c2 : at' ≤ x.un
            · have fc2 : decide (at' ≤ x.un) = true := decide_eq_true c2
              have hv : hitB x sv at' = true := by simp only [hitB, fc0, fc1, fc2, Bool.true_and, Bool.false_and, Bool.and_true, Bool.and_false]
              have hX := And.intro grD_eq (And.intro fc0 (And.intro fc1 (fc2)))
              (repeat (first | (refine gtx rfl rfl ?_) | (refine gx ?_) | ((with_reducible show DR _ _ _ (_ :: _) _); first | (refine cx _ (envG _ _ _ _ _ _) rfl rfl rfl rfl rfl ?_ (hc := by first | exact kc))  | (refine sx ?_)))); refine DR_nil ?_; refine kl1 ?_
              rw [hv]; rfl
            · have fc2 : decide (at' ≤ x.un) = false := decide_eq_false c2
              have hv : hitB x sv at' = false := by simp only [hitB, fc0, fc1, fc2, Bool.true_and, Bool.false_and, Bool.and_true, Bool.and_false]
              have hX := And.intro grD_eq (And.intro fc0 (And.intro fc1 (fc2)))
              (repeat (first | (refine gtx rfl rfl ?_) | (refine gx ?_) | ((with_reducible show DR _ _ _ (_ :: _) _); first | (refine cx _ (envG _ _ _ _ _ _) rfl rfl rfl rfl rfl ?_ (hc := by first | exact kc))  | (refine sx ?_)))); refine DR_nil ?_; refine kl1 ?_
              rw [hv]; rfl
          · have fc1 : decide (x.fr ≤ at') = false := decide_eq_false c1
            have hv : hitB x sv at' = false := by simp only [hitB, fc0, fc1, Bool.true_and, Bool.false_and, Bool.and_true, Bool.and_false]
            have hX := And.intro grD_eq (And.intro fc0 (fc1))
            (repeat (first | (refine gtx rfl rfl ?_) | (refine gx ?_) | ((with_reducible show DR _ _ _ (_ :: _) _); first | (refine cx _ (envG _ _ _ _ _ _) rfl rfl rfl rfl rfl ?_ (hc := by first | exact kc))  | (refine sx ?_)))); refine DR_nil ?_; refine kl1 ?_
            rw [hv]; rfl
        · have fc0 : decide (x.sv = sv) = false := decide_eq_false c0
          have hv : hitB x sv at' = false := by simp only [hitB, fc0, Bool.true_and, Bool.false_and, Bool.and_true, Bool.and_false]
          have hX := And.intro grD_eq (fc0)
          (repeat (first | (refine gtx rfl rfl ?_) | (refine gx ?_) | ((with_reducible show DR _ _ _ (_ :: _) _); first | (refine cx _ (envG _ _ _ _ _ _) rfl rfl rfl rfl rfl ?_ (hc := by first | exact kc))  | (refine sx ?_)))); refine DR_nil ?_; refine kl1 ?_
          rw [hv]; rfl
      by_cases hkq : k = p
      · rw [hh, decide_eq_true hkq]
        subst hkq
        rw [if_pos hkn, hx]
        (repeat refine DX_seq ?_); refine iftx ?_
        (repeat refine DX_seq ?_); refine rgx [6, 7] ?_
        (repeat refine DX_seq ?_); refine DX_ret ?_; refine retx ?_; (try dsimp only [outV, unlist])
        exact Fin_pure rfl
      · rw [hh, decide_eq_false hkq]
        (repeat refine DX_seq ?_); refine iffx ?_
        (repeat refine DX_seq ?_); refine DX_skip ?_
        (repeat refine DX_seq ?_); refine rgx [1, 2, 6, 14, 15, 16] ?_
        refine ⟨_, m - 1, WeakX.take 1 rfl rfl rfl, by omega, k + 1, by omega, by omega, ?_⟩
        first | rfl | simp [iD, bkD]
    · intro hc; (try simp only [hcs, ne_eq] at hc)
      obtain rfl : p = b.length := by omega
      rw [if_neg (Nat.lt_irrefl _), show b.getD b.length gz = gz by rw [List.getD_eq_getElem?_getD, List.getElem?_eq_none (by omega)]; rfl]
      (repeat refine DX_seq ?_); refine DX_exit ?_
      (repeat refine DX_seq ?_); refine DX_reg [6, 7] ?_; intro w0 A S0 f0; refine qx _ rfl rfl rfl ?_ (hp := by intro d hd; simp only [List.mem_cons, List.not_mem_nil, or_false] at hd; rcases hd with rfl | rfl | rfl | rfl | rfl <;> first | trivial | exact ⟨rfl, rfl⟩); (repeat ((with_reducible show DR _ _ _ (_ :: _) _); first | (refine cx _ (envG _ _ _ _ _ _) rfl rfl rfl rfl rfl ?_ (hc := by first | exact kc))  | (refine sx ?_))); refine DR_nil ?_; refine kl1 ?_
      (repeat refine DX_seq ?_); refine DX_ret ?_; refine retx ?_; (try dsimp only [outV, unlist])
      exact Fin_pure rfl
  · rw [chk_two hc] at kc
    rw [if_neg hc, if_neg hc]
    have hX := and_true; refine PC_atX Tryd.func54 rfl Tryd.ntmps54 Tryd.results54 rfl (by simp only [argsL, Nat.reduceAdd, u32D, u8D, iD, bD, strD, u32_xor, u32_or, u32_and, u32_add, u32_not, u32_shr, u32_shl, u8_u32, u32_u8]; exact rfl) ?_; intro w0 A
    have hX := And.intro bkD_eq (and_true)
    have hK := And.intro (kc) trivial; (repeat refine DX_seq ?_); refine rgx [0, 1, 2, 6] ?_
    (repeat refine DX_seq ?_); refine rgx [0, 1, 2, 6, 12] ?_
    (repeat refine DX_seq ?_); refine iftx ?_
    (repeat refine DX_seq ?_); refine DX_reg [6, 7] ?_; intro w0 A S0 f0; refine qx _ rfl rfl rfl ?_ (hp := by intro d hd; simp only [List.mem_cons, List.not_mem_nil, or_false] at hd; rcases hd with rfl | rfl | rfl | rfl | rfl <;> first | trivial | exact ⟨rfl, rfl⟩); (repeat ((with_reducible show DR _ _ _ (_ :: _) _); first | (refine cx _ (envG _ _ _ _ _ _) rfl rfl rfl rfl rfl ?_ (hc := by first | exact kc))  | (refine sx ?_))); refine DR_nil ?_; refine kl1 ?_
    (repeat refine DX_seq ?_); refine DX_ret ?_; refine retx ?_; (try dsimp only [outV, unlist])
    exact Fin_pure rfl
end Go.Proofs.YtedioenakmgdiaaDoor

namespace Go.Proofs.YtedioenakmgdiaaDoor
set_option linter.unusedSimpArgs false
set_option linter.unusedVariables false
set_option maxRecDepth 10000
open Go.RowKit
def isD (l : List Int) : D := .sl l 0 iD
theorem isD_eq (l : List Int) : isD l = .sl l 0 (fun z => D.v (.int .i64 z)) := rfl
set_option maxHeartbeats 4000000 in
theorem sameI_c (a b : List Int) (ha : a.length ≤ 4611686018427387904) : PC (envOf Tryd.prog) 50 [isD a, isD b] (bD (decide (a = b))) := by
  have hX := and_true; refine PC_atX Tryd.func50 rfl Tryd.ntmps50 Tryd.results50 rfl (by simp only [argsL, Nat.reduceAdd, u32D, u8D, iD, bD, strD, u32_xor, u32_or, u32_and, u32_add, u32_not, u32_shr, u32_shl, u8_u32, u32_u8]; exact rfl) ?_; intro w0 A
  have hX := And.intro isD_eq (and_true)
  (repeat refine DX_seq ?_); refine rgx [0, 1] ?_
  (repeat refine DX_seq ?_); refine rgx [0, 1, 10] ?_
  (repeat refine DX_seq ?_); refine ifx ?_ ?_
  · intro hc; (try simp only [hcs, ne_eq] at hc)
    (repeat refine DX_seq ?_); refine rgx [4] ?_
    (repeat refine DX_seq ?_); refine DX_ret ?_; refine retx ?_; (try dsimp only [outV, unlist])
    rw [decide_eq_false (fun e => by subst e; exact hc rfl)]
    exact Fin_pure rfl
  · intro hc; (try simp only [hcs, ne_eq] at hc)
    have hl : a.length = b.length := by omega
    (repeat refine DX_seq ?_); refine DX_skip ?_
    (repeat refine DX_seq ?_); refine rgx [0, 1, 12, 13] ?_
    (repeat refine DX_seq ?_); refine DX_block ?_
    (repeat refine DX_seq ?_); refine DX_loop (fun m _ st => ∃ k, k + m = a.length ∧ (∀ i, i < k → a.getD i 0 = b.getD i 0) ∧ st = mk [(0, isD a), (1, isD b), (12, iD (a.length : Int)), (13, iD (k : Int))] []) a.length ⟨_, WeakX.refl _, 0, by omega, fun i hi => absurd hi (by omega), rfl⟩ ?_
    rintro m _ _ ⟨k, hk, hall, rfl⟩
    have hX := And.intro isD_eq (and_true)
    (repeat refine DX_seq ?_); refine rgx [0, 1, 12, 13, 14] ?_
    (repeat refine DX_seq ?_); refine ifx ?_ ?_
    · intro hc; (try simp only [hcs, ne_eq] at hc)
      (repeat refine DX_seq ?_); refine DX_skip ?_
      (repeat refine DX_seq ?_); refine DX_block ?_
      have hX := And.intro isD_eq (and_true)
      (repeat refine DX_seq ?_); refine rgx [0, 1, 5, 12, 13] ?_
      (repeat refine DX_seq ?_); refine rqx [0, 1, 12, 13, 24] ?_
      (repeat refine DX_seq ?_); refine ifx ?_ ?_
      · intro hc; (try simp only [hcs, ne_eq] at hc)
        (repeat refine DX_seq ?_); refine rgx [4] ?_
        (repeat refine DX_seq ?_); refine DX_ret ?_; refine retx ?_; (try dsimp only [outV, unlist])
        rw [decide_eq_false (fun e => by subst e; exact hc rfl)]
        exact Fin_pure rfl
      · intro hc; (try simp only [hcs, ne_eq] at hc)
        (repeat refine DX_seq ?_); refine DX_skip ?_
        (repeat refine DX_seq ?_); refine rgx [0, 1, 12, 13] ?_
        refine ⟨_, m - 1, WeakX.refl _, by omega, k + 1, by omega, fun i hi => ?_, by first | rfl | simp [iD, isD]⟩
        by_cases e : i = k
        · rw [e]; exact hc
        · exact hall i (by omega)
    · intro hc; (try simp only [hcs, ne_eq] at hc)
      obtain rfl : k = a.length := by omega
      (repeat refine DX_seq ?_); refine DX_exit ?_
      (repeat refine DX_seq ?_); refine rgx [4] ?_
      (repeat refine DX_seq ?_); refine DX_ret ?_; refine retx ?_; (try dsimp only [outV, unlist])
      rw [decide_eq_true (show a = b from by
        apply List.ext_getElem hl
        intro i h1 h2
        have := hall i h1
        simpa [List.getD_eq_getElem?_getD, h1, h2] using this)]
      exact Fin_pure rfl
/-- the servers of the first k grants -/
def srvN (b : List Gr) : Nat → List Int
  | 0 => []
  | k + 1 => if k = 0 ∨ (b.getD k gz).sv ≠ (b.getD (k - 1) gz).sv then srvN b k ++ [(b.getD k gz).sv] else srvN b k
theorem srvN_len (b : List Gr) : ∀ k, (srvN b k).length ≤ k
  | 0 => Nat.le_refl _
  | k + 1 => by
    have := srvN_len b k
    unfold srvN
    split
    · simp; omega
    · omega
theorem srvN_pos (b : List Gr) : ∀ k, 0 < k → 0 < (srvN b k).length
  | 0, h => by omega
  | k + 1, _ => by
    unfold srvN
    split
    · simp
    · rename_i h
      exact srvN_pos b k (by omega)
theorem srvN_last (b : List Gr) : ∀ k, (srvN b (k + 1)).getD ((srvN b (k + 1)).length - 1) 0 = (b.getD k gz).sv
  | 0 => rfl
  | k + 1 => by
    rw [srvN]
    split
    · simp [List.getD_eq_getElem?_getD]
    · rename_i h
      rw [srvN_last b k]
      simp only [Nat.add_sub_cancel, not_or, Classical.not_not] at h
      exact h.2.symm
theorem srvN_go {b : List Gr} {k : Nat} (h : k = 0 ∨ (b.getD k gz).sv ≠ (b.getD (k - 1) gz).sv) : srvN b (k + 1) = srvN b k ++ [(b.getD k gz).sv] := by rw [srvN, if_pos h]
theorem srvN_no {b : List Gr} {k : Nat} (h : ¬ (k = 0 ∨ (b.getD k gz).sv ≠ (b.getD (k - 1) gz).sv)) : srvN b (k + 1) = srvN b k := by rw [srvN, if_neg h]
set_option maxHeartbeats 16000000 in
theorem servers_c (b : List Gr) (hb : b.length ≤ 2199023255552) : PC (envOf Tryd.prog) 51 [bkD b] (isD (srvN b b.length)) := by
  have hX := and_true; refine PC_atX Tryd.func51 rfl Tryd.ntmps51 Tryd.results51 rfl (by simp only [argsL, Nat.reduceAdd, u32D, u8D, iD, bD, strD, u32_xor, u32_or, u32_and, u32_add, u32_not, u32_shr, u32_shl, u8_u32, u32_u8]; exact rfl) ?_; intro w0 A
  have hX := And.intro bkD_eq (and_true)
  (repeat refine DX_seq ?_); refine rgx [0] ?_
  (repeat refine DX_seq ?_); refine rgx [0, 3] ?_
  (repeat refine DX_seq ?_); refine rgx [3, 7, 8, 9] ?_
  (repeat refine DX_seq ?_); refine DX_block ?_
  refine DX_weak (fun _ _ _ _ => Weak.nil_own 3 3 1 rfl) ?_
  refine DX_loop (fun m _ st => ∃ k, k + m = b.length ∧ st = mk [(3, .own 0 (srvN b k).length 3 1), (7, bkD b), (8, iD (b.length : Int)), (9, iD (k : Int))] [some (.row ((srvN b k).map iD) 3 1)]) b.length ⟨_, WeakX.pick [3, 7, 8, 9], 0, by omega, rfl⟩ ?_
  rintro m _ _ ⟨k, hk, rfl⟩
  have hX := And.intro bkD_eq (and_true)
  (repeat refine DX_seq ?_); refine rgx [3, 7, 8, 9, 10] ?_
  (repeat refine DX_seq ?_); refine ifx ?_ ?_
  · intro hc; (try simp only [hcs, ne_eq] at hc)
    have hkn : k < b.length := by omega
    have hln := srvN_len b k
    have hlp := srvN_pos b k
    have hgo := srvN_go (b := b) (k := k)
    have hno := srvN_no (b := b) (k := k)
    have hls : 0 < k → (srvN b k).getD ((srvN b k).length - 1) 0 = (b.getD (k - 1) gz).sv := fun h => by
      have := srvN_last b (k - 1)
      rwa [show k - 1 + 1 = k by omega] at this
    have hz : k = 0 → srvN b k = [] := fun h => by subst h; rfl
    obtain ⟨x, hx⟩ : ∃ x, b.getD k gz = x := ⟨_, rfl⟩
    obtain ⟨y, hy⟩ : ∃ y, b.getD (k - 1) gz = y := ⟨_, rfl⟩
    rw [hx, hy] at hgo hno
    rw [hy] at hls
    generalize srvN b k = L at *
    (repeat refine DX_seq ?_); refine DX_skip ?_
    (repeat refine DX_seq ?_); refine DX_block ?_
    have hX := And.intro bkD_eq (And.intro grD_eq (hx))
    (repeat refine DX_seq ?_); refine rgx [3, 5, 7, 8, 9] ?_
    (repeat refine DX_seq ?_); refine rgx [3, 5, 6, 7, 8, 9] ?_
    by_cases h0 : k = 0
    · have hz0 := hz h0
      subst hz0
      have d0 : decide ((([] : List Int).length : Int) = 0) = true := rfl
      have hX := And.intro bkD_eq (And.intro grD_eq (d0))
      (repeat refine DX_seq ?_); refine rqgx [3, 5, 7, 8, 9, 26] ?_
      (repeat refine DX_seq ?_); refine iftx ?_
      have hX := And.intro bkD_eq (grD_eq)
      (repeat refine DX_seq ?_); refine rgx [3, 7, 8, 9] ?_
      (repeat refine DX_seq ?_); refine rgx [3, 7, 8, 9] ?_
      refine ⟨_, m - 1, WeakX.take 1 rfl rfl rfl, by omega, k + 1, by omega, ?_⟩
      rw [hgo (.inl h0)]
      first | rfl | simp [iD, bkD, mk]
    · have d0 : decide ((L.length : Int) = 0) = false := decide_eq_false (by have := hlp (by omega); omega)
      have hls2 := hls (by omega)
      have hlp2 := hlp (by omega)
      have hgr : (L.map iD).getD (L.length - 1) .dead = .v (.int .i64 y.sv) := by rw [← hls2]; simp [List.getD_eq_getElem?_getD, List.getElem?_eq_getElem (show L.length - 1 < L.length by omega), iD]
      have i1 : (L.length - 1) / 1 = L.length - 1 := Nat.div_one _
      have i2 : (L.length - 1) % 1 = 0 := Nat.mod_one _
      have eL : ((L.length : Int) - 1).toNat = L.length - 1 := by omega
      by_cases h1 : y.sv = x.sv
      · have d1 : decide (y.sv = x.sv) = true := decide_eq_true h1
        have hX := And.intro bkD_eq (And.intro grD_eq (And.intro d0 (And.intro d1 (And.intro eL (And.intro hgr (And.intro i1 (And.intro i2 (Bool.not_true))))))))
        (repeat refine DX_seq ?_); refine rqgx [3, 5, 7, 8, 9, 26] ?_
        (repeat refine DX_seq ?_); refine iffx ?_
        (repeat refine DX_seq ?_); refine DX_skip ?_
        (repeat refine DX_seq ?_); refine rgx [3, 7, 8, 9] ?_
        refine ⟨_, m - 1, WeakX.take 1 rfl rfl rfl, by omega, k + 1, by omega, ?_⟩
        rw [hno (by omega)]
        first | rfl | simp [iD, bkD, mk]
      · have d1 : decide (y.sv = x.sv) = false := decide_eq_false h1
        have hX := And.intro bkD_eq (And.intro grD_eq (And.intro d0 (And.intro d1 (And.intro eL (And.intro hgr (And.intro i1 (And.intro i2 (Bool.not_false))))))))
        (repeat refine DX_seq ?_); refine rqgx [3, 5, 7, 8, 9, 26] ?_
        (repeat refine DX_seq ?_); refine iftx ?_
        have hX := And.intro bkD_eq (grD_eq)
        (repeat refine DX_seq ?_); refine rgx [3, 7, 8, 9] ?_
        (repeat refine DX_seq ?_); refine rgx [3, 7, 8, 9] ?_
        refine ⟨_, m - 1, WeakX.take 1 rfl rfl rfl, by omega, k + 1, by omega, ?_⟩
        rw [hgo (.inr (by omega))]
        first | rfl | simp [iD, bkD, mk]
  · intro hc; (try simp only [hcs, ne_eq] at hc)
    obtain rfl : k = b.length := by omega
    have hln := srvN_len b b.length
    (repeat refine DX_seq ?_); refine DX_exit ?_
    (repeat refine DX_seq ?_); refine rgx [2] ?_
    (repeat refine DX_seq ?_); refine DX_ret ?_; refine retx ?_; (try dsimp only [outV, unlist])
    exact Fin_elems rfl (by simp only [elems, List.getElem?_cons_zero]; exact rfl) (by simp) (by rw [List.take_of_length_le (by simp)]) (fun _ => rfl)
set_option maxHeartbeats 16000000 in
theorem refservers_c (b : List Gr) (hb : b.length ≤ 2199023255552) : PC (envOf Tryd.prog) 52 [bkD b] (isD (srvN b b.length)) := by
  have hX := and_true; refine PC_atX Tryd.func52 rfl Tryd.ntmps52 Tryd.results52 rfl (by simp only [argsL, Nat.reduceAdd, u32D, u8D, iD, bD, strD, u32_xor, u32_or, u32_and, u32_add, u32_not, u32_shr, u32_shl, u8_u32, u32_u8]; exact rfl) ?_; intro w0 A
  have hX := And.intro bkD_eq (and_true)
  (repeat refine DX_seq ?_); refine rgx [0] ?_
  (repeat refine DX_seq ?_); refine rgx [0, 3] ?_
  (repeat refine DX_seq ?_); refine rgx [0, 3, 6, 7, 8] ?_
  (repeat refine DX_seq ?_); refine DX_block ?_
  refine DX_weak (fun _ _ _ _ => Weak.nil_own 3 3 1 rfl) ?_
  refine DX_loop (fun m _ st => ∃ k, k + m = b.length ∧ st = mk [(0, bkD b), (3, .own 0 (srvN b k).length 3 1), (6, bkD b), (7, iD (b.length : Int)), (8, iD (k : Int))] [some (.row ((srvN b k).map iD) 3 1)]) b.length ⟨_, WeakX.pick [0, 3, 6, 7, 8], 0, by omega, rfl⟩ ?_
  rintro m _ _ ⟨k, hk, rfl⟩
  have hX := And.intro bkD_eq (and_true)
  (repeat refine DX_seq ?_); refine rgx [0, 3, 6, 7, 8, 9] ?_
  (repeat refine DX_seq ?_); refine ifx ?_ ?_
  · intro hc; (try simp only [hcs, ne_eq] at hc)
    have hkn : k < b.length := by omega
    have hln := srvN_len b k
    have hlp := srvN_pos b k
    have hgo := srvN_go (b := b) (k := k)
    have hno := srvN_no (b := b) (k := k)
    have hls : 0 < k → (srvN b k).getD ((srvN b k).length - 1) 0 = (b.getD (k - 1) gz).sv := fun h => by
      have := srvN_last b (k - 1)
      rwa [show k - 1 + 1 = k by omega] at this
    have hz : k = 0 → srvN b k = [] := fun h => by subst h; rfl
    obtain ⟨x, hx⟩ : ∃ x, b.getD k gz = x := ⟨_, rfl⟩
    obtain ⟨y, hy⟩ : ∃ y, b.getD (k - 1) gz = y := ⟨_, rfl⟩
    rw [hx, hy] at hgo hno
    rw [hy] at hls
    generalize srvN b k = L at *
    (repeat refine DX_seq ?_); refine DX_skip ?_
    (repeat refine DX_seq ?_); refine DX_block ?_
    have hX := And.intro bkD_eq (And.intro grD_eq (hx))
    (repeat refine DX_seq ?_); refine rgx [0, 3, 4, 5, 6, 7, 8] ?_
    by_cases h0 : k = 0
    · have hz0 := hz h0
      subst hz0
      have d0 : decide ((k : Int) = 0) = true := decide_eq_true (by omega)
      have hX := And.intro bkD_eq (And.intro grD_eq (d0))
      (repeat refine DX_seq ?_); refine rqgx [0, 3, 5, 6, 7, 8, 25] ?_
      (repeat refine DX_seq ?_); refine iftx ?_
      have hX := And.intro bkD_eq (grD_eq)
      (repeat refine DX_seq ?_); refine rgx [0, 3, 6, 7, 8] ?_
      (repeat refine DX_seq ?_); refine rgx [0, 3, 6, 7, 8] ?_
      refine ⟨_, m - 1, WeakX.take 1 rfl rfl rfl, by omega, k + 1, by omega, ?_⟩
      rw [hgo (.inl h0)]
      first | rfl | simp [iD, bkD, mk]
    · have d0 : decide ((k : Int) = 0) = false := decide_eq_false (by omega)
      have eL : ((k : Int) - 1).toNat = k - 1 := by omega
      by_cases h1 : x.sv = y.sv
      · have d1 : decide (x.sv = y.sv) = true := decide_eq_true h1
        have hX := And.intro bkD_eq (And.intro grD_eq (And.intro d0 (And.intro d1 (And.intro eL (And.intro hy (Bool.not_true))))))
        (repeat refine DX_seq ?_); refine rqgx [0, 3, 5, 6, 7, 8, 25] ?_
        (repeat refine DX_seq ?_); refine iffx ?_
        (repeat refine DX_seq ?_); refine DX_skip ?_
        (repeat refine DX_seq ?_); refine rgx [0, 3, 6, 7, 8] ?_
        refine ⟨_, m - 1, WeakX.take 1 rfl rfl rfl, by omega, k + 1, by omega, ?_⟩
        rw [hno (by omega)]
        first | rfl | simp [iD, bkD, mk]
      · have d1 : decide (x.sv = y.sv) = false := decide_eq_false h1
        have hX := And.intro bkD_eq (And.intro grD_eq (And.intro d0 (And.intro d1 (And.intro eL (And.intro hy (Bool.not_false))))))
        (repeat refine DX_seq ?_); refine rqgx [0, 3, 5, 6, 7, 8, 25] ?_
        (repeat refine DX_seq ?_); refine iftx ?_
        have hX := And.intro bkD_eq (grD_eq)
        (repeat refine DX_seq ?_); refine rgx [0, 3, 6, 7, 8] ?_
        (repeat refine DX_seq ?_); refine rgx [0, 3, 6, 7, 8] ?_
        refine ⟨_, m - 1, WeakX.take 1 rfl rfl rfl, by omega, k + 1, by omega, ?_⟩
        rw [hgo (.inr (by omega))]
        first | rfl | simp [iD, bkD, mk]
  · intro hc; (try simp only [hcs, ne_eq] at hc)
    obtain rfl : k = b.length := by omega
    have hln := srvN_len b b.length
    (repeat refine DX_seq ?_); refine DX_exit ?_
    (repeat refine DX_seq ?_); refine rgx [2] ?_
    (repeat refine DX_seq ?_); refine DX_ret ?_; refine retx ?_; (try dsimp only [outV, unlist])
    exact Fin_elems rfl (by simp only [elems, List.getElem?_cons_zero]; exact rfl) (by simp) (by rw [List.take_of_length_le (by simp)]) (fun _ => rfl)
end Go.Proofs.YtedioenakmgdiaaDoor

namespace Go.Proofs.YtedioenakmgdiaaDoor
set_option linter.unusedSimpArgs false
set_option linter.unusedVariables false
set_option maxRecDepth 10000
open Go.RowKit
/-- two grants are one, as the program compares them -/
def eqG (x y : Gr) : Bool := decide (x.sv = y.sv) && (decide (x.fr = y.fr) && (decide (x.un = y.un) && (decide (x.hi = y.hi) && decide ((List.range 32).map (fun i => ((x.rt.getD i 0).toNat : Int)) = (List.range 32).map (fun i => ((y.rt.getD i 0).toNat : Int))))))
theorem eqG_eq (x y : Gr) : (decide (x.sv = y.sv) && (decide (x.fr = y.fr) && (decide (x.un = y.un) && (decide (x.hi = y.hi) && decide ((List.range 32).map (fun i => ((x.rt.getD i 0).toNat : Int)) = (List.range 32).map (fun i => ((y.rt.getD i 0).toNat : Int))))))) = eqG x y := rfl
theorem eqG_refl (x : Gr) : eqG x x = true := by unfold eqG; simp
set_option maxHeartbeats 8000000 in
theorem sameG_c (a b : List Gr) (hn : a.length ≤ 4611686018427387904) (hq : ∀ i, i < a.length → i < b.length → eqG (a.getD i gz) (b.getD i gz) = decide (a.getD i gz = b.getD i gz)) : PC (envOf Tryd.prog) 49 [bkD a, bkD b] (bD (decide (a = b))) := by
  have hX := and_true; refine PC_atX Tryd.func49 rfl Tryd.ntmps49 Tryd.results49 rfl (by simp only [argsL, Nat.reduceAdd, u32D, u8D, iD, bD, strD, u32_xor, u32_or, u32_and, u32_add, u32_not, u32_shr, u32_shl, u8_u32, u32_u8]; exact rfl) ?_; intro w0 A
  have hX := And.intro bkD_eq (and_true)
  (repeat refine DX_seq ?_); refine rgx [0, 1] ?_
  (repeat refine DX_seq ?_); refine rgx [0, 1, 10] ?_
  (repeat refine DX_seq ?_); refine ifx ?_ ?_
  · intro hc; (try simp only [hcs, ne_eq] at hc)
    (repeat refine DX_seq ?_); refine rgx [4] ?_
    (repeat refine DX_seq ?_); refine DX_ret ?_; refine retx ?_; (try dsimp only [outV, unlist])
    rw [decide_eq_false (fun e => by subst e; exact hc rfl)]
    exact Fin_pure rfl
  · intro hc; (try simp only [hcs, ne_eq] at hc)
    have hl : a.length = b.length := by omega
    (repeat refine DX_seq ?_); refine DX_skip ?_
    (repeat refine DX_seq ?_); refine rgx [0, 1, 12, 13] ?_
    (repeat refine DX_seq ?_); refine DX_block ?_
    (repeat refine DX_seq ?_); refine DX_loop (fun m _ st => ∃ k, k + m = a.length ∧ (∀ i, i < k → a.getD i gz = b.getD i gz) ∧ st = mk [(0, bkD a), (1, bkD b), (12, iD (a.length : Int)), (13, iD (k : Int))] []) a.length ⟨_, WeakX.refl _, 0, by omega, fun i hi => absurd hi (by omega), rfl⟩ ?_
    rintro m _ _ ⟨k, hk, hall, rfl⟩
    have hX := And.intro bkD_eq (and_true)
    (repeat refine DX_seq ?_); refine rgx [0, 1, 12, 13, 14] ?_
    (repeat refine DX_seq ?_); refine ifx ?_ ?_
    · intro hc; (try simp only [hcs, ne_eq] at hc)
      have h1 : k < a.length := by omega
      have h2 : k < b.length := by omega
      have hge := hq k h1 h2
      (repeat refine DX_seq ?_); refine DX_skip ?_
      (repeat refine DX_seq ?_); refine DX_block ?_
      have hX := And.intro bkD_eq (and_true)
      (repeat refine DX_seq ?_); refine rgx [0, 1, 5, 12, 13] ?_
      obtain ⟨x, hx⟩ : ∃ x, a.getD k gz = x := ⟨_, rfl⟩
      obtain ⟨y, hy⟩ : ∃ y, b.getD k gz = y := ⟨_, rfl⟩
      have hall2 : x = y → ∀ i, i < k + 1 → a.getD i gz = b.getD i gz := fun e i hi => by
        by_cases e2 : i = k
        · rw [e2, hx, hy]; exact e
        · exact hall i (by omega)
      have hdne : x ≠ y → a ≠ b := fun e h => e (by rw [← hx, ← hy, h])
      rw [hx, hy] at hge
      clear hall hq
      by_cases hxy : x = y
      · rw [decide_eq_true hxy] at hge
        replace hall2 := hall2 hxy
        clear hdne hxy
        have hX := And.intro bkD_eq (And.intro grD_eq (And.intro hx (And.intro hy (And.intro eqG_eq (And.intro hge (Bool.not_true))))))
        (repeat refine DX_seq ?_); refine DX_drwq [0, 1, 12, 13, 24] (by kernel_rfl) ?_; intro w0 A S0 f0; (repeat ((with_reducible show DRq _ _ _ (_ :: _) _); first | (refine cxq _ (envG _ _ _ _ _ _) rfl rfl rfl rfl rfl ?_ (hc := by first | fail)) | (refine sxq ?_) | (refine eqsxq 3 _ rfl rfl rfl rfl (.inr rfl) (by kernel_rfl) (by kernel_rfl) rfl ?_))); refine DRq_nil ?_; refine kl1 ?_
        (repeat refine DX_seq ?_); refine iffx ?_
        (repeat refine DX_seq ?_); refine DX_skip ?_
        (repeat refine DX_seq ?_); refine rgx [0, 1, 12, 13] ?_
        exact ⟨_, m - 1, WeakX.refl _, by omega, k + 1, by omega, hall2, by first | rfl | simp [iD, bkD]⟩
      · rw [decide_eq_false hxy] at hge
        have hX := And.intro bkD_eq (And.intro grD_eq (And.intro hx (And.intro hy (And.intro eqG_eq (And.intro hge (Bool.not_false))))))
        (repeat refine DX_seq ?_); refine DX_drwq [0, 1, 12, 13, 24] (by kernel_rfl) ?_; intro w0 A S0 f0; (repeat ((with_reducible show DRq _ _ _ (_ :: _) _); first | (refine cxq _ (envG _ _ _ _ _ _) rfl rfl rfl rfl rfl ?_ (hc := by first | fail)) | (refine sxq ?_) | (refine eqsxq 3 _ rfl rfl rfl rfl (.inr rfl) (by kernel_rfl) (by kernel_rfl) rfl ?_))); refine DRq_nil ?_; refine kl1 ?_
        (repeat refine DX_seq ?_); refine iftx ?_
        (repeat refine DX_seq ?_); refine rgx [4] ?_
        (repeat refine DX_seq ?_); refine DX_ret ?_; refine retx ?_; (try dsimp only [outV, unlist])
        rw [decide_eq_false (hdne hxy)]
        exact Fin_pure rfl
    · intro hc; (try simp only [hcs, ne_eq] at hc)
      obtain rfl : k = a.length := by omega
      (repeat refine DX_seq ?_); refine DX_exit ?_
      (repeat refine DX_seq ?_); refine rgx [4] ?_
      (repeat refine DX_seq ?_); refine DX_ret ?_; refine retx ?_; (try dsimp only [outV, unlist])
      rw [decide_eq_true (show a = b from by
        apply List.ext_getElem hl
        intro i h1 h2
        have := hall i h1
        simpa [List.getD_eq_getElem?_getD, h1, h2] using this)]
      exact Fin_pure rfl
set_option maxHeartbeats 8000000 in
theorem bkverifyYes_c (b : List Gr) (sv at' : Int) (text sig : List UInt8) (e : Int) (h : findE b sv at' = 0) (kv : PC (envOf Tryd.prog) 35 [hashD (findG b sv at').rt, iD (findG b sv at').hi, strD text, strD sig] (iD e)) : PC (envOf Tryd.prog) 55 [bkD b, iD sv, iD at', strD text, strD sig] (iD e) := by
  have kf := find_c b sv at'
  rw [h] at kf
  generalize findG b sv at' = g at *
  have hh : ∀ h, hashD h = .arr .u8 32 (fun i => ((h.getD i 0).toNat : Int)) := fun _ => rfl
  have hX := and_true; refine PC_atX Tryd.func55 rfl Tryd.ntmps55 Tryd.results55 rfl (by simp only [argsL, Nat.reduceAdd, u32D, u8D, iD, bD, strD, u32_xor, u32_or, u32_and, u32_add, u32_not, u32_shr, u32_shl, u8_u32, u32_u8]; exact rfl) ?_; intro w0 A
  have hX := And.intro bkD_eq (And.intro geD_eq (And.intro grD_eq (hh)))
  have hK := And.intro (kf) (And.intro (kv) trivial); (repeat refine DX_seq ?_); refine rgx [0, 1, 2, 3, 4] ?_
  (repeat refine DX_seq ?_); refine rgx [3, 4, 11, 12] ?_
  (repeat refine DX_seq ?_); refine rgx [3, 4, 11, 12, 21] ?_
  (repeat refine DX_seq ?_); refine iffx ?_
  (repeat refine DX_seq ?_); refine DX_skip ?_
  (repeat refine DX_seq ?_); refine rgx [10] ?_
  (repeat refine DX_seq ?_); refine DX_ret ?_; refine retx ?_; (try dsimp only [outV, unlist])
  exact Fin_pure rfl
set_option maxHeartbeats 8000000 in
theorem bkverifyNo_c (b : List Gr) (sv at' : Int) (text sig : List UInt8) (h : findE b sv at' ≠ 0) : PC (envOf Tryd.prog) 55 [bkD b, iD sv, iD at', strD text, strD sig] (iD (findE b sv at')) := by
  have kf := find_c b sv at'
  have d0 : decide (findE b sv at' = 0) = false := decide_eq_false h
  generalize findE b sv at' = e at *
  generalize findG b sv at' = g at *
  have hX := and_true; refine PC_atX Tryd.func55 rfl Tryd.ntmps55 Tryd.results55 rfl (by simp only [argsL, Nat.reduceAdd, u32D, u8D, iD, bD, strD, u32_xor, u32_or, u32_and, u32_add, u32_not, u32_shr, u32_shl, u8_u32, u32_u8]; exact rfl) ?_; intro w0 A
  have hX := And.intro bkD_eq (And.intro geD_eq (And.intro grD_eq (And.intro d0 (Bool.not_false))))
  have hK := And.intro (kf) trivial; (repeat refine DX_seq ?_); refine rgx [0, 1, 2, 3, 4] ?_
  (repeat refine DX_seq ?_); refine rgx [3, 4, 11, 12] ?_
  (repeat refine DX_seq ?_); refine rgx [3, 4, 11, 12, 21] ?_
  (repeat refine DX_seq ?_); refine iftx ?_
  (repeat refine DX_seq ?_); refine rgx [10] ?_
  (repeat refine DX_seq ?_); refine DX_ret ?_; refine retx ?_; (try dsimp only [outV, unlist])
  exact Fin_pure rfl
set_option maxHeartbeats 8000000 in
theorem refbkverifyYes_c (b : List Gr) (sv at' : Int) (text sig : List UInt8) (e : Int) (h : findE b sv at' = 0) (kv : PC (envOf Tryd.prog) 36 [hashD (findG b sv at').rt, iD (findG b sv at').hi, strD text, strD sig] (iD e)) : PC (envOf Tryd.prog) 56 [bkD b, iD sv, iD at', strD text, strD sig] (iD e) := by
  have kf := reffind_c b sv at'
  rw [h] at kf
  generalize findG b sv at' = g at *
  have hh : ∀ h, hashD h = .arr .u8 32 (fun i => ((h.getD i 0).toNat : Int)) := fun _ => rfl
  have hX := and_true; refine PC_atX Tryd.func56 rfl Tryd.ntmps56 Tryd.results56 rfl (by simp only [argsL, Nat.reduceAdd, u32D, u8D, iD, bD, strD, u32_xor, u32_or, u32_and, u32_add, u32_not, u32_shr, u32_shl, u8_u32, u32_u8]; exact rfl) ?_; intro w0 A
  have hX := And.intro bkD_eq (And.intro geD_eq (And.intro grD_eq (hh)))
  have hK := And.intro (kf) (And.intro (kv) trivial); (repeat refine DX_seq ?_); refine rgx [0, 1, 2, 3, 4] ?_
  (repeat refine DX_seq ?_); refine rgx [3, 4, 11, 12] ?_
  (repeat refine DX_seq ?_); refine rgx [3, 4, 11, 12, 21] ?_
  (repeat refine DX_seq ?_); refine iffx ?_
  (repeat refine DX_seq ?_); refine DX_skip ?_
  (repeat refine DX_seq ?_); refine rgx [10] ?_
  (repeat refine DX_seq ?_); refine DX_ret ?_; refine retx ?_; (try dsimp only [outV, unlist])
  exact Fin_pure rfl
set_option maxHeartbeats 8000000 in
theorem refbkverifyNo_c (b : List Gr) (sv at' : Int) (text sig : List UInt8) (h : findE b sv at' ≠ 0) : PC (envOf Tryd.prog) 56 [bkD b, iD sv, iD at', strD text, strD sig] (iD (findE b sv at')) := by
  have kf := reffind_c b sv at'
  have d0 : decide (findE b sv at' = 0) = false := decide_eq_false h
  generalize findE b sv at' = e at *
  generalize findG b sv at' = g at *
  have hX := and_true; refine PC_atX Tryd.func56 rfl Tryd.ntmps56 Tryd.results56 rfl (by simp only [argsL, Nat.reduceAdd, u32D, u8D, iD, bD, strD, u32_xor, u32_or, u32_and, u32_add, u32_not, u32_shr, u32_shl, u8_u32, u32_u8]; exact rfl) ?_; intro w0 A
  have hX := And.intro bkD_eq (And.intro geD_eq (And.intro grD_eq (And.intro d0 (Bool.not_false))))
  have hK := And.intro (kf) trivial; (repeat refine DX_seq ?_); refine rgx [0, 1, 2, 3, 4] ?_
  (repeat refine DX_seq ?_); refine rgx [3, 4, 11, 12] ?_
  (repeat refine DX_seq ?_); refine rgx [3, 4, 11, 12, 21] ?_
  (repeat refine DX_seq ?_); refine iftx ?_
  (repeat refine DX_seq ?_); refine rgx [10] ?_
  (repeat refine DX_seq ?_); refine DX_ret ?_; refine retx ?_; (try dsimp only [outV, unlist])
  exact Fin_pure rfl
theorem goodP' {n : Int} {sig : List UInt8} (hb : ¬ badP n sig) : ∃ m : Nat, n = (m : Int) ∧ m ≤ 7 ∧ sig.length = 1089 + 32 * m ∧ (sig.getD 0 0).toNat < 2 ^ m := by
  unfold badP at hb
  simp only [not_or] at hb
  obtain ⟨b1, b2, b3, b4⟩ := hb
  exact ⟨n.toNat, by omega, by omega, by omega, by omega⟩
theorem verify_ex' (root text sig : List UInt8) (n : Int) (hr : root.length = 32) (ht : text.length ≤ 1000000) : ∃ e : Int, PC (envOf Tryd.prog) 35 [hashD root, iD n, strD text, strD sig] (iD e) ∧ PC (envOf Tryd.prog) 36 [hashD root, iD n, strD text, strD sig] (iD e) := by
  by_cases hb : badP n sig
  · exact ⟨2, verifyNo_c root text sig n hb, refverifyNo_c root text sig n hb⟩
  · obtain ⟨m, rfl, hm, hl, hi⟩ := goodP' hb
    exact ⟨verS root text sig m, verifyOk_c root text sig m hr hm hl hi ht, refverifyOk_c root text sig m hr hm hl hi ht⟩
theorem find_yes {b : List Gr} {sv at' : Int} (h : findE b sv at' = 0) : findG b sv at' ∈ b := by
  unfold findE at h
  unfold findG
  split at h
  · rename_i hc
    split at h
    · rename_i hl
      rw [if_pos hc, List.getD_eq_getElem?_getD, List.getElem?_eq_getElem hl]
      exact List.getElem_mem hl
    · cases h
  · cases h
theorem bkverify_ex (b : List Gr) (sv at' : Int) (text sig : List UInt8) (ht : text.length ≤ 1000000) (hb : ∀ x ∈ b, x.rt.length = 32) : ∃ e : Int, PC (envOf Tryd.prog) 55 [bkD b, iD sv, iD at', strD text, strD sig] (iD e) ∧ PC (envOf Tryd.prog) 56 [bkD b, iD sv, iD at', strD text, strD sig] (iD e) := by
  by_cases h : findE b sv at' = 0
  · obtain ⟨e, k1, k2⟩ := verify_ex' (findG b sv at').rt text sig (findG b sv at').hi (hb _ (find_yes h)) ht
    exact ⟨e, bkverifyYes_c b sv at' text sig e h k1, refbkverifyYes_c b sv at' text sig e h k2⟩
  · exact ⟨_, bkverifyNo_c b sv at' text sig h, refbkverifyNo_c b sv at' text sig h⟩
end Go.Proofs.YtedioenakmgdiaaDoor

namespace Go.Proofs.YtedioenakmgdiaaDoor
set_option linter.unusedSimpArgs false
set_option linter.unusedVariables false
set_option maxRecDepth 10000
open Go.RowKit
section
variable {E : Env} {C : Cx} {ops : Array Oper} {K : St → Prop} {o : Oper} {rest : List Oper} {s : Nat → D} {h : List (Option Bk)} {f : FuncId} {g : Operand} {args : Array Operand} {ts : Array TypeId} {d : D}
/-- a call whose arguments stand for others, and lead to no own block -/
theorem clpx {ys : List D} (xs : List D) (t : Nat) (hE : EnvC E C) (hle : All2 LeP xs ys) (hc : PC E f ys d) (hg : o.guard = none) (hd : o.dst = some t) (ht' : Nat.blt t C.n = true) (ho : o.op = .call { callee := .value g, args := args, argTypes := ts }) (hf : fnB C.P f = true) (k : DR C ops K rest ⟨upd s t d, h⟩)
    (e : argsD C ⟨s, h⟩ o = .fn f .nil :: xs := by simp only [Array.toList_append, List.cons_append, List.nil_append, byteD, implies_true, setD, bslF, buildF, buildL, List.zip_cons_cons, List.zip_nil_right, List.zip_nil_left, pureD, rng0, rng1, rng2, rng3, rng4, rng5, rng6, rng7, rng8, List.getD_cons_zero, List.getD_cons_succ, Nat.reduceLeDiff, decide_true, decide_false, List.all_cons, List.all_nil, dqF, nilF, callQ, argsD, Op.operands, Call.operands, evD, cD, gip, upd, look, List.map, List.map_cons, List.map_nil, binF, binI, shI, binS, unF, wD, kLo, kHi, kMod, kBits, convF, loadF, fieldF, faddrF, indexF, iaddrF, lenF, lenD, sliceF, sliceF3, minF, sliceD, cutL, bndF, sub, nc, aggT, aggB, scB, tnth, elems, L_B, L_mk, List.getElem?_cons_zero, List.getElem?_cons_succ, reduceIte, reduceCtorEq, Option.isSome, List.toList_toArray, Nat.reduceAdd, Nat.reduceSub, Nat.reduceMul, Nat.reduceEqDiff, Nat.reduceLT, Nat.reduceBEq, mkF, mkG, Bool.and_true, Bool.true_and, Bool.and_false, Bool.false_and, beq_self_eq_true, mkC, Int.reduceToNat, Int.toNat_natCast, Int.reduceAdd, Int.reduceSub, Int.reduceMul, Nat.zero_add, Nat.add_zero, Nat.mul_one, and_true, true_and, Option.getD_some, Option.getD_none, ne_eq, not_true_eq_false, not_false_eq_true, decide_not, Bool.not_true, Bool.not_false, Int.reduceLT, Int.reduceLE, Int.reduceEq, Int.reduceNe, Int.reduceGT, Int.reduceGE, gt_iff_lt, ge_iff_le, Nat.reduceLT, Nat.reduceLeDiff, u32D, u8D, iD, bD, strD, u32_xor, u32_or, u32_and, u32_add, u32_not, u32_shr, u32_shl, u8_u32, u32_u8, envOf, tyT, gtab, hX] <;> exact rfl) : DR C ops K (o :: rest) ⟨s, h⟩ :=
  DR_c t hg hd ht' e (DQ_call hE (cs := []) ho hf rfl (by rw [List.append_nil]; exact hle) hc) k
end
/-- two things, as they are written down -/
def twD (a b : D) : D := .sl (List.range 2) 0 (fun i => [a, b].getD i .dead)
theorem Le_two {h : List (Option Bk)} {α : Type} {a b z : α} {f : α → D} (hp : ∀ x, pureD (f x) = true) : Le h (twD (f a) (f b)) (.sl [a, b] z f) := Le_elems (p := True) (es := [f a, f b]) (by rfl) trivial rfl hp
end Go.Proofs.YtedioenakmgdiaaDoor

namespace Go.Proofs.YtedioenakmgdiaaDoor
set_option linter.unusedSimpArgs false
set_option linter.unusedVariables false
set_option maxRecDepth 10000
open Go.RowKit
def g1 : Gr := ⟨2, 5, 9, 0, []⟩
def g2 : Gr := ⟨1, 5, 9, 0, []⟩
def g3 : Gr := ⟨2, 9, 9, 0, []⟩
theorem g1_eq : grD g1 = .cons (.v (.int .i64 2)) (.cons (.v (.int .i64 5)) (.cons (.v (.int .i64 9)) (.cons (.v (.int .i64 0)) (.cons (.arr .u8 32 (fun _ => (0 : Int))) .nil)))) := rfl
theorem g2_eq : grD g2 = .cons (.v (.int .i64 1)) (.cons (.v (.int .i64 5)) (.cons (.v (.int .i64 9)) (.cons (.v (.int .i64 0)) (.cons (.arr .u8 32 (fun _ => (0 : Int))) .nil)))) := rfl
theorem g3_eq : grD g3 = .cons (.v (.int .i64 2)) (.cons (.v (.int .i64 9)) (.cons (.v (.int .i64 9)) (.cons (.v (.int .i64 0)) (.cons (.arr .u8 32 (fun _ => (0 : Int))) .nil)))) := rfl
set_option maxHeartbeats 16000000 in
theorem lives06_c : PC (envOf Tryd.prog) 46 [] (bD true) := by
  have c1 : PC (envOf Tryd.prog) 44 [bkD [], grD g1] (beD [g1] 0) := bkadd_c [] g1
  have c2 : PC (envOf Tryd.prog) 44 [bkD [g1], grD g2] (beD [g2, g1] 0) := bkadd_c [g1] g2
  have c3 : PC (envOf Tryd.prog) 44 [bkD [g2, g1], grD g3] (beD [g2, g1] 4) := bkadd_c [g2, g1] g3
  have c4 : PC (envOf Tryd.prog) 53 [bkD [g2, g1], iD 2, iD 9] (geD g1 0) := find_c [g2, g1] 2 9
  have c5 : PC (envOf Tryd.prog) 53 [bkD [g2, g1], iD 2, iD 10] (geD gz 3) := find_c [g2, g1] 2 10
  have c6 : PC (envOf Tryd.prog) 53 [bkD [g1, g2], iD 2, iD 5] (geD gz 2) := find_c [g1, g2] 2 5
  have c7 : PC (envOf Tryd.prog) 49 [bkD [g2, g1], bkD [g2, g1]] (bD true) := sameG_c [g2, g1] [g2, g1] (by decide) (fun i _ _ => by rw [eqG_refl, decide_eq_true rfl])
  have c8 : PC (envOf Tryd.prog) 55 [bkD [g2, g1], iD 2, iD 5, strD [], strD []] (iD 2) := bkverifyYes_c [g2, g1] 2 5 [] [] 2 rfl (verifyNo_c [] [] [] 0 (.inr (.inr (.inl (by decide)))))
  have c9 : PC (envOf Tryd.prog) 51 [bkD [g2, g1]] (isD [1, 2]) := servers_c [g2, g1] (by decide)
  have c10 : PC (envOf Tryd.prog) 50 [isD [1, 2], isD [1, 2]] (bD true) := sameI_c [1, 2] [1, 2] (by decide)
  have c11 : PC (envOf Tryd.prog) 47 [bkD [g2, g1]] (iD 0) := check_c [g2, g1]
  unfold beD at c1 c2 c3
  unfold geD at c4 c5 c6
  rw [g1_eq] at c1 c4
  rw [g2_eq] at c2
  rw [g3_eq] at c3
  rw [gz_eq] at c5 c6
  have hsp : strD [] = .v (.string (B [])) := rfl
  have hgp : ∀ g : Gr, pureD (grD g) = true := fun _ => rfl
  have hip : ∀ i : Int, pureD (iD i) = true := fun _ => rfl
  have l21 : ∀ h : List (Option Bk), Le h (twD (grD g2) (grD g1)) (bkD [g2, g1]) := fun h => Le_two hgp
  have l12 : ∀ h : List (Option Bk), Le h (twD (grD g1) (grD g2)) (bkD [g1, g2]) := fun h => Le_two hgp
  have li : ∀ h : List (Option Bk), Le h (twD (iD 1) (iD 2)) (isD [1, 2]) := fun h => Le_two hip
  rw [g1_eq, g2_eq] at l21 l12
  have p2 : pureD (bkD [g2, g1]) = true := rfl
  have p3 : pureD (isD [1, 2]) = true := rfl
  have hX0 := and_true
  have hX := and_true; refine PC_atX Tryd.func46 rfl Tryd.ntmps46 Tryd.results46 rfl (by simp only [argsL, Nat.reduceAdd, u32D, u8D, iD, bD, strD, u32_xor, u32_or, u32_and, u32_add, u32_not, u32_shr, u32_shl, u8_u32, u32_u8]; exact rfl) ?_; intro w0 A
  have hX := And.intro hsp (and_true)
  have hK := And.intro (c2) (And.intro (c3) (And.intro (c4) (And.intro (c5) (And.intro (c7) (And.intro (c8) (And.intro (c9) (And.intro (c11) trivial))))))); (repeat refine DX_seq ?_); refine rgx [] ?_
  (repeat refine DX_seq ?_); refine DX_reg [1, 2] ?_; intro w0 A S0 f0
  refine qx _ rfl rfl rfl ?_ (hp := by (repeat' (with_reducible apply And.intro)) <;> first | (with_reducible exact True.intro) | (intro d hd; simp only [List.mem_cons, List.not_mem_nil, or_false] at hd; rcases hd with rfl | rfl | rfl | rfl | rfl <;> first | trivial | exact ⟨rfl, rfl⟩) | rfl | trivial)
  refine qx _ rfl rfl rfl ?_ (hp := by (repeat' (with_reducible apply And.intro)) <;> first | (with_reducible exact True.intro) | (intro d hd; simp only [List.mem_cons, List.not_mem_nil, or_false] at hd; rcases hd with rfl | rfl | rfl | rfl | rfl <;> first | trivial | exact ⟨rfl, rfl⟩) | rfl | trivial)
  (repeat ((with_reducible show DR _ _ _ (_ :: _) _); first | (refine cx _ (envG _ _ _ _ _ _) rfl rfl rfl rfl rfl ?_ (hc := by first | exact c2 | exact c3 | exact c4 | exact c5 | exact c7 | exact c8 | exact c9 | exact c11))  | (refine sx ?_))); refine DR_nil ?_; refine kl1 ?_
  (repeat refine DX_seq ?_); refine DX_reg [1, 2, 3, 4] ?_; intro w0 A S0 f0
  iterate 1 ((with_reducible show DR _ _ _ (_ :: _) _); first | (refine cx _ (envG _ _ _ _ _ _) rfl rfl rfl rfl rfl ?_ (hc := by first | exact c2 | exact c3 | exact c4 | exact c5 | exact c7 | exact c8 | exact c9 | exact c11))  | (refine sx ?_))
  refine clpx [.v (.slice none 0 0), grD g1] _ (envG _ _ _ _ _ _) (.cons LeP.nil (.cons (LeP.refl rfl) .nil)) c1 rfl rfl rfl rfl rfl ?_
  (repeat ((with_reducible show DR _ _ _ (_ :: _) _); first | (refine cx _ (envG _ _ _ _ _ _) rfl rfl rfl rfl rfl ?_ (hc := by first | exact c2 | exact c3 | exact c4 | exact c5 | exact c7 | exact c8 | exact c9 | exact c11))  | (refine sx ?_))); refine DR_nil ?_; refine kl1 ?_
  (repeat refine DX_seq ?_); refine rgx [1, 2, 3, 4, 5] ?_
  (repeat refine DX_seq ?_); refine DX_reg [1, 2, 3, 4, 5, 6, 7] ?_; intro w0 A S0 f0
  iterate 1 ((with_reducible show DR _ _ _ (_ :: _) _); first | (refine cx _ (envG _ _ _ _ _ _) rfl rfl rfl rfl rfl ?_ (hc := by first | exact c2 | exact c3 | exact c4 | exact c5 | exact c7 | exact c8 | exact c9 | exact c11))  | (refine sx ?_))
  refine qx _ rfl rfl rfl ?_ (hp := by (repeat' (with_reducible apply And.intro)) <;> first | (with_reducible exact True.intro) | (intro d hd; simp only [List.mem_cons, List.not_mem_nil, or_false] at hd; rcases hd with rfl | rfl | rfl | rfl | rfl <;> first | trivial | exact ⟨rfl, rfl⟩) | rfl | trivial)
  (repeat ((with_reducible show DR _ _ _ (_ :: _) _); first | (refine cx _ (envG _ _ _ _ _ _) rfl rfl rfl rfl rfl ?_ (hc := by first | exact c2 | exact c3 | exact c4 | exact c5 | exact c7 | exact c8 | exact c9 | exact c11))  | (refine sx ?_))); refine DR_nil ?_; refine kl1 ?_
  (repeat refine DX_seq ?_); refine rgx [1, 2, 3, 4, 5, 6, 7, 8, 9] ?_
  (repeat refine DX_seq ?_); refine rgx [1, 2, 3, 4, 5, 6, 7, 8, 9, 11] ?_
  (repeat refine DX_seq ?_); refine DX_reg [1, 2, 3, 4, 5, 6, 7, 8, 9, 11, 13] ?_; intro w0 A S0 f0
  (repeat ((with_reducible show DR _ _ _ (_ :: _) _); first | (refine cx _ (envG _ _ _ _ _ _) rfl rfl rfl rfl rfl ?_ (hc := by first | exact c2 | exact c3 | exact c4 | exact c5 | exact c7 | exact c8 | exact c9 | exact c11))  | (refine sx ?_) | (refine clx (d := .tup (.cons (.cons (.v (.int .i64 0)) (.cons (.v (.int .i64 0)) (.cons (.v (.int .i64 0)) (.cons (.v (.int .i64 0)) (.cons (.arr .u8 32 (fun _ => (0 : Int))) .nil))))) (.cons (iD 2) .nil))) (xs := [twD (grD g1) (grD g2), iD 2, iD 5]) (ys := [bkD [g1, g2], iD 2, iD 5]) _ (envG _ _ _ _ _ _) (.cons (l12 _) (.cons (LeP.refl rfl).le (.cons (LeP.refl rfl).le .nil))) c6 rfl rfl rfl rfl rfl rfl ?_))); refine DR_nil ?_; refine kl1 ?_
  (repeat refine DX_seq ?_); refine DX_reg [0] ?_; intro w0 A S0 f0
  (repeat (first | (refine gtx rfl rfl ?_) | (refine gx ?_) | ((with_reducible show DR _ _ _ (_ :: _) _); first | (refine cx _ (envG _ _ _ _ _ _) rfl rfl rfl rfl rfl ?_ (hc := by first | exact c2 | exact c3 | exact c4 | exact c5 | exact c7 | exact c8 | exact c9 | exact c11))  | (refine sx ?_)) | (refine eqsx 3 _ rfl rfl rfl rfl (.inl rfl) (by kernel_rfl) (by kernel_rfl) rfl ?_) | (refine clx (d := bD true) (xs := [bkD [g2, g1], twD (grD g2) (grD g1)]) (ys := [bkD [g2, g1], bkD [g2, g1]]) _ (envG _ _ _ _ _ _) (.cons (LeP.refl rfl).le (.cons (l21 _) .nil)) c7 rfl rfl rfl rfl rfl rfl ?_) | (refine clx (d := bD true) (xs := [isD [1, 2], twD (iD 1) (iD 2)]) (ys := [isD [1, 2], isD [1, 2]]) _ (envG _ _ _ _ _ _) (.cons (LeP.refl rfl).le (.cons (li _) .nil)) c10 rfl rfl rfl rfl rfl rfl ?_))); refine DR_nil ?_; refine kl1 ?_
  (repeat refine DX_seq ?_); refine DX_ret ?_; refine retx ?_; (try dsimp only [outV, unlist])
  exact Fin_pure rfl
end Go.Proofs.YtedioenakmgdiaaDoor

namespace Go.Proofs.YtedioenakmgdiaaDoor
set_option linter.unusedSimpArgs false
set_option linter.unusedVariables false
set_option maxRecDepth 10000
open Go.RowKit
theorem refadd_end (b : List Gr) (g : Gr) (p : Nat) (hp : p ≤ b.length) : (((b.take p).map grD ++ [grD g]) ++ (b.drop p).map grD) = (b.take p ++ g :: b.drop p).map grD := by simp
theorem min_less {k p : Nat} (h : k < p) : min (k + 1) p = min k p + 1 := by omega
theorem min_more {k p : Nat} (h : ¬ k < p) : min (k + 1) p = min k p := by omega
theorem cut_take (b : List Gr) {p : Nat} (hp : p ≤ b.length) : (b.take p).length = p := by rw [List.length_take]; omega
theorem overB_iff {x g : Gr} : overB x g = true ↔ (x.sv = g.sv ∧ x.fr ≤ g.un ∧ g.fr ≤ x.un) := over_iff
theorem overB_no {x g : Gr} : overB x g = false ↔ ¬ (x.sv = g.sv ∧ x.fr ≤ g.un ∧ g.fr ≤ x.un) := by rw [← over_iff]; simp
theorem lessB_iff {a b : Gr} : lessB a b = true ↔ (a.sv < b.sv ∨ (a.sv = b.sv ∧ a.fr < b.fr)) := less_iff
theorem lessB_no {a b : Gr} : lessB a b = false ↔ ¬ (a.sv < b.sv ∨ (a.sv = b.sv ∧ a.fr < b.fr)) := by rw [← less_iff]; simp
set_option maxHeartbeats 16000000 in
theorem refadd_c (b : List Gr) (g : Gr) : PC (envOf Tryd.prog) 45 [bkD b, grD g] (beD (addGs b g) (addE b g)) := by
  by_cases hc : chkS b = 0
  · obtain ⟨hl, hgd⟩ := chk_good hc
    have kc := refcheck_c b
    rw [hc] at kc
    have kr := refright_c g
    have hle := posN_le b g
    have hP := posN_spec hgd g
    have hin : insS b g = b.take (posN b g) ++ g :: b.drop (posN b g) := rfl
    have htw := fun hr => tw_iff hgd (g := g) hr
    unfold addGs addE
    rw [if_pos hc, if_pos hc, hin]
    generalize posN b g = p at *
    clear hin
    have hX := and_true; refine PC_atX Tryd.func45 rfl Tryd.ntmps45 Tryd.results45 rfl (by simp only [argsL, Nat.reduceAdd, u32D, u8D, iD, bD, strD, u32_xor, u32_or, u32_and, u32_add, u32_not, u32_shr, u32_shl, u8_u32, u32_u8]; exact rfl) ?_; intro w0 A
    have hX := And.intro bkD_eq (And.intro grD_eq (and_true))
    have hK := And.intro (kc) trivial; (repeat refine DX_seq ?_); refine rgx [0, 3] ?_
    (repeat refine DX_seq ?_); refine rgx [0, 3, 12] ?_
    (repeat refine DX_seq ?_); refine iffx ?_
    (repeat refine DX_seq ?_); refine DX_skip ?_
    cases hr : rightB g with
    | false =>
      rw [hr] at kr
      rw [if_neg (by decide), if_neg (by decide)]
      have hX := And.intro bkD_eq (And.intro grD_eq (Bool.not_false))
      have hK := And.intro (kr) trivial; (repeat refine DX_seq ?_); refine rgx [0, 3, 15] ?_
      (repeat refine DX_seq ?_); refine iftx ?_
      (repeat refine DX_seq ?_); refine DX_reg [4, 5] ?_; intro w0 A S0 f0
      refine ex rfl (dobsl1 rfl rfl rfl rfl rfl) ?_
      (repeat ((with_reducible show DR _ _ _ (_ :: _) _); first | (refine cx _ (envG _ _ _ _ _ _) rfl rfl rfl rfl rfl ?_ (hc := by first | exact kr))  | (refine sx ?_))); refine DR_nil ?_; refine kl1 ?_
      (repeat refine DX_seq ?_); refine DX_ret ?_; refine retx ?_; (try dsimp only [outV, unlist])
      simp only [List.nil_append, List.length_nil, Nat.zero_add, List.length_map]
      exact fin_be rfl rfl
    | true =>
      rw [hr] at kr
      have htw := htw hr
      rw [if_pos rfl, if_pos rfl]
      have hX := And.intro bkD_eq (And.intro grD_eq (Bool.not_true))
      have hK := And.intro (kr) trivial; (repeat refine DX_seq ?_); refine rgx [0, 3, 15] ?_
      (repeat refine DX_seq ?_); refine iffx ?_
      (repeat refine DX_seq ?_); refine DX_skip ?_
      by_cases hf : b.length = 256
      · have d0 : decide ((b.length : Int) = 256) = true := decide_eq_true (by omega)
        rw [if_pos hf, if_pos hf]
        have hX := And.intro bkD_eq (d0)
        (repeat refine DX_seq ?_); refine rgx [0, 3, 21] ?_
        (repeat refine DX_seq ?_); refine iftx ?_
        (repeat refine DX_seq ?_); refine DX_reg [4, 5] ?_; intro w0 A S0 f0
        refine ex rfl (dobsl1 rfl rfl rfl rfl rfl) ?_
        (repeat ((with_reducible show DR _ _ _ (_ :: _) _); first | (refine cx _ (envG _ _ _ _ _ _) rfl rfl rfl rfl rfl ?_ (hc := by first | exact kr))  | (refine sx ?_))); refine DR_nil ?_; refine kl1 ?_
        (repeat refine DX_seq ?_); refine DX_ret ?_; refine retx ?_; (try dsimp only [outV, unlist])
        simp only [List.nil_append, List.length_nil, Nat.zero_add, List.length_map]
        exact fin_be rfl rfl
      · have d0 : decide ((b.length : Int) = 256) = false := decide_eq_false (by omega)
        rw [if_neg hf, if_neg hf]
        have hX := And.intro bkD_eq (d0)
        (repeat refine DX_seq ?_); refine rgx [0, 3, 21] ?_
        (repeat refine DX_seq ?_); refine iffx ?_
        (repeat refine DX_seq ?_); refine DX_skip ?_
        (repeat refine DX_seq ?_); refine rgx [0, 3, 6] ?_
        (repeat refine DX_seq ?_); refine rgx [0, 3, 6, 25, 26, 27] ?_
        (repeat refine DX_seq ?_); refine DX_block ?_
        (repeat refine DX_seq ?_); refine DX_loop (fun m _ st => ∃ k, k + m = b.length ∧ (∀ j, j < k → overB (b.getD j gz) g = false) ∧ st = mk [(0, bkD b), (3, .ptr 0 0), (6, iD ((min k p : Nat) : Int)), (25, bkD b), (26, iD (b.length : Int)), (27, iD (k : Int))] [some (.one (grD g))]) b.length ⟨_, WeakX.refl _, 0, by omega, by omega, by rw [Nat.zero_min]; rfl⟩ ?_
        rintro m _ _ ⟨k, hk, hno, rfl⟩
        have hX := And.intro bkD_eq (and_true)
        (repeat refine DX_seq ?_); refine rgx [0, 3, 6, 25, 26, 27, 28] ?_
        (repeat refine DX_seq ?_); refine ifx ?_ ?_
        · intro hc; (try simp only [hcs, ne_eq] at hc)
          have hkn : k < b.length := by omega
          have hls := hP k hkn
          have htk := fun h => htw.2 ⟨k, hkn, h⟩
          have hno2 : overB (b.getD k gz) g = false → ∀ j, j < k + 1 → overB (b.getD j gz) g = false := fun h j hj => by
            rcases Nat.lt_or_eq_of_le (Nat.le_of_lt_succ hj) with h1 | rfl
            · exact hno j h1
            · exact h
          clear hno htw hP
          obtain ⟨x, hx⟩ : ∃ x, b.getD k gz = x := ⟨_, rfl⟩
          rw [hx] at hls htk hno2
          (repeat refine DX_seq ?_); refine DX_skip ?_
          (repeat refine DX_seq ?_); refine DX_block ?_
          have hX := And.intro bkD_eq (And.intro grD_eq (hx))
          (repeat refine DX_seq ?_); refine rgx [0, 3, 6, 8, 25, 26, 27] ?_
          (repeat refine DX_seq ?_); refine rgx [0, 3, 6, 8, 25, 26, 27, 49] (l' := [(0, bkD b), (3, .ptr 0 0), (6, iD ((min k p : Nat) : Int)), (8, .ptr 1 0), (25, bkD b), (26, iD (b.length : Int)), (27, iD (k : Int)), (49, bD (overB x g))]) (h' := [some (.one (grD g)), some (.one (grD x))]) ?_ ?_
          rotate_left
          · intro w0 A S0 f0
            by_cases c0 : x.sv = g.sv
            · have f0 : decide (x.sv = g.sv) = true := decide_eq_true c0
              by_cases c1 : x.fr ≤ g.un
              · have f1 : decide (x.fr ≤ g.un) = true := decide_eq_true c1
                by_cases c2 : g.fr ≤ x.un
                · have f2 : decide (g.fr ≤ x.un) = true := decide_eq_true c2
                  have hv : overB x g = true := by rw [overB_iff]; omega
                  have hX := And.intro grD_eq (And.intro f0 (And.intro f1 (f2)))
                  (repeat (first | (refine gtx rfl rfl ?_) | (refine gx ?_) | ((with_reducible show DR _ _ _ (_ :: _) _); first | (refine cx _ (envG _ _ _ _ _ _) rfl rfl rfl rfl rfl ?_ (hc := by first | exact kr))  | (refine sx ?_)))); refine DR_nil ?_; refine kl1 ?_
                  rw [hv]; rfl
                · have f2 : decide (g.fr ≤ x.un) = false := decide_eq_false c2
                  have hv : overB x g = false := by rw [overB_no]; omega
                  have hX := And.intro grD_eq (And.intro f0 (And.intro f1 (f2)))
                  (repeat (first | (refine gtx rfl rfl ?_) | (refine gx ?_) | ((with_reducible show DR _ _ _ (_ :: _) _); first | (refine cx _ (envG _ _ _ _ _ _) rfl rfl rfl rfl rfl ?_ (hc := by first | exact kr))  | (refine sx ?_)))); refine DR_nil ?_; refine kl1 ?_
                  rw [hv]; rfl
              · have f1 : decide (x.fr ≤ g.un) = false := decide_eq_false c1
                have hv : overB x g = false := by rw [overB_no]; omega
                have hX := And.intro grD_eq (And.intro f0 (f1))
                (repeat (first | (refine gtx rfl rfl ?_) | (refine gx ?_) | ((with_reducible show DR _ _ _ (_ :: _) _); first | (refine cx _ (envG _ _ _ _ _ _) rfl rfl rfl rfl rfl ?_ (hc := by first | exact kr))  | (refine sx ?_)))); refine DR_nil ?_; refine kl1 ?_
                rw [hv]; rfl
            · have f0 : decide (x.sv = g.sv) = false := decide_eq_false c0
              have hv : overB x g = false := by rw [overB_no]; omega
              have hX := And.intro grD_eq (f0)
              (repeat (first | (refine gtx rfl rfl ?_) | (refine gx ?_) | ((with_reducible show DR _ _ _ (_ :: _) _); first | (refine cx _ (envG _ _ _ _ _ _) rfl rfl rfl rfl rfl ?_ (hc := by first | exact kr))  | (refine sx ?_)))); refine DR_nil ?_; refine kl1 ?_
              rw [hv]; rfl
          cases ho : overB x g with
          | true =>
            rw [if_pos (htk ho), if_pos (htk ho)]
            (repeat refine DX_seq ?_); refine iftx ?_
            (repeat refine DX_seq ?_); refine DX_reg [4, 5] ?_; intro w0 A S0 f0
            refine ex rfl (dobsl1 rfl rfl rfl rfl rfl) ?_
            (repeat ((with_reducible show DR _ _ _ (_ :: _) _); first | (refine cx _ (envG _ _ _ _ _ _) rfl rfl rfl rfl rfl ?_ (hc := by first | exact kr))  | (refine sx ?_))); refine DR_nil ?_; refine kl1 ?_
            (repeat refine DX_seq ?_); refine DX_ret ?_; refine retx ?_; (try dsimp only [outV, unlist])
            simp only [List.nil_append, List.length_nil, Nat.zero_add, List.length_map]
            exact fin_be rfl rfl
          | false =>
            replace hno2 := hno2 ho
            clear htk
            (repeat refine DX_seq ?_); refine iffx ?_
            (repeat refine DX_seq ?_); refine DX_skip ?_
            (repeat refine DX_seq ?_); refine rgx [0, 3, 6, 25, 26, 27, 71] (l' := [(0, bkD b), (3, .ptr 0 0), (6, iD ((min k p : Nat) : Int)), (25, bkD b), (26, iD (b.length : Int)), (27, iD (k : Int)), (71, bD (lessB x g))]) (h' := [some (.one (grD g)), some (.one (grD x))]) ?_ ?_
            rotate_left
            · intro w0 A S0 f0
              by_cases c0 : x.sv < g.sv
              · have f0 : decide (x.sv < g.sv) = true := decide_eq_true c0
                have hv : lessB x g = true := by rw [lessB_iff]; omega
                have hX := And.intro grD_eq (f0)
                (repeat (first | (refine gtx rfl rfl ?_) | (refine gx ?_) | ((with_reducible show DR _ _ _ (_ :: _) _); first | (refine cx _ (envG _ _ _ _ _ _) rfl rfl rfl rfl rfl ?_ (hc := by first | exact kr))  | (refine sx ?_)))); refine DR_nil ?_; refine kl1 ?_
                rw [hv]; rfl
              · have f0 : decide (x.sv < g.sv) = false := decide_eq_false c0
                by_cases c1 : x.sv = g.sv
                · have f1 : decide (x.sv = g.sv) = true := decide_eq_true c1
                  by_cases c2 : x.fr < g.fr
                  · have f2 : decide (x.fr < g.fr) = true := decide_eq_true c2
                    have hv : lessB x g = true := by rw [lessB_iff]; omega
                    have hX := And.intro grD_eq (And.intro f0 (And.intro f1 (f2)))
                    (repeat (first | (refine gtx rfl rfl ?_) | (refine gx ?_) | ((with_reducible show DR _ _ _ (_ :: _) _); first | (refine cx _ (envG _ _ _ _ _ _) rfl rfl rfl rfl rfl ?_ (hc := by first | exact kr))  | (refine sx ?_)))); refine DR_nil ?_; refine kl1 ?_
                    rw [hv]; rfl
                  · have f2 : decide (x.fr < g.fr) = false := decide_eq_false c2
                    have hv : lessB x g = false := by rw [lessB_no]; omega
                    have hX := And.intro grD_eq (And.intro f0 (And.intro f1 (f2)))
                    (repeat (first | (refine gtx rfl rfl ?_) | (refine gx ?_) | ((with_reducible show DR _ _ _ (_ :: _) _); first | (refine cx _ (envG _ _ _ _ _ _) rfl rfl rfl rfl rfl ?_ (hc := by first | exact kr))  | (refine sx ?_)))); refine DR_nil ?_; refine kl1 ?_
                    rw [hv]; rfl
                · have f1 : decide (x.sv = g.sv) = false := decide_eq_false c1
                  have hv : lessB x g = false := by rw [lessB_no]; omega
                  have hX := And.intro grD_eq (And.intro f0 (f1))
                  (repeat (first | (refine gtx rfl rfl ?_) | (refine gx ?_) | ((with_reducible show DR _ _ _ (_ :: _) _); first | (refine cx _ (envG _ _ _ _ _ _) rfl rfl rfl rfl rfl ?_ (hc := by first | exact kr))  | (refine sx ?_)))); refine DR_nil ?_; refine kl1 ?_
                  rw [hv]; rfl
            by_cases hkp : k < p
            · rw [hls, decide_eq_true hkp]
              have hmn := min_less hkp
              (repeat refine DX_seq ?_); refine iftx ?_
              (repeat refine DX_seq ?_); refine rgx [0, 3, 6, 25, 26, 27] ?_
              (repeat refine DX_seq ?_); refine rgx [0, 3, 6, 25, 26, 27] ?_
              refine ⟨_, m - 1, WeakX.take 1 rfl rfl rfl, by omega, k + 1, by omega, hno2, ?_⟩
              rw [hmn]
              first | rfl | simp [iD, bkD]
            · rw [hls, decide_eq_false hkp]
              have hmn := min_more hkp
              (repeat refine DX_seq ?_); refine iffx ?_
              (repeat refine DX_seq ?_); refine DX_skip ?_
              (repeat refine DX_seq ?_); refine rgx [0, 3, 6, 25, 26, 27] ?_
              refine ⟨_, m - 1, WeakX.take 1 rfl rfl rfl, by omega, k + 1, by omega, hno2, ?_⟩
              rw [hmn]
              first | rfl | simp [iD, bkD]
        · intro hc; (try simp only [hcs, ne_eq] at hc)
          obtain rfl : k = b.length := by omega
          have hnt : ¬ twB b g = true := fun h => by
            obtain ⟨j, h1, h2⟩ := htw.1 h
            rw [hno j h1] at h2
            cases h2
          have hmp : min b.length p = p := Nat.min_eq_right hle
          have hnt2 := cut_take b hle
          have hdl : (b.drop p).length = b.length - p := List.length_drop
          rw [if_neg hnt, if_neg hnt, hmp]
          clear hno htw hP
          (repeat refine DX_seq ?_); refine DX_exit ?_
          have hX := And.intro bkD_eq (hmp)
          (repeat refine DX_seq ?_); refine DX_reg [0, 3, 6, 9] ?_; intro w0 A S0 f0
          refine ex rfl (dobsl1 rfl rfl rfl rfl rfl) ?_
          (repeat ((with_reducible show DR _ _ _ (_ :: _) _); first | (refine cx _ (envG _ _ _ _ _ _) rfl rfl rfl rfl rfl ?_ (hc := by first | exact kr))  | (refine sx ?_))); refine DR_nil ?_; refine kl1 ?_
          have hX := And.intro bkD_eq (oneD_eq)
          (repeat refine DX_seq ?_); refine DX_reg [0, 6, 9] ?_; intro w0 A S0 f0
          (repeat ((with_reducible show DR _ _ _ (_ :: _) _); first | (refine cx _ (envG _ _ _ _ _ _) rfl rfl rfl rfl rfl ?_ (hc := by first | exact kr))  | (refine sx ?_))); refine DR_nil ?_; refine kl1 ?_
          (repeat refine DX_seq ?_); refine rgx [4, 5] ?_
          (repeat refine DX_seq ?_); refine DX_ret ?_; refine retx ?_; (try dsimp only [outV, unlist])
          exact fin_be (b := b.take p ++ g :: b.drop p) (l := 1) (T := 68) (sz := 36) (congrArg (fun L => some (some (Bk.row L 68 36))) (refadd_end b g p hle)) (by simp only [List.length_append, List.length_map, List.length_cons]; omega)
  · have kc := refcheck_c b
    rw [chk_two hc] at kc
    rw [addGs_no hc, addE_no hc]
    have hX := and_true; refine PC_atX Tryd.func45 rfl Tryd.ntmps45 Tryd.results45 rfl (by simp only [argsL, Nat.reduceAdd, u32D, u8D, iD, bD, strD, u32_xor, u32_or, u32_and, u32_add, u32_not, u32_shr, u32_shl, u8_u32, u32_u8]; exact rfl) ?_; intro w0 A
    have hX := And.intro bkD_eq (And.intro grD_eq (Bool.not_false))
    have hK := And.intro (kc) trivial; (repeat refine DX_seq ?_); refine rgx [0, 3] ?_
    (repeat refine DX_seq ?_); refine rgx [0, 3, 12] ?_
    (repeat refine DX_seq ?_); refine iftx ?_
    (repeat refine DX_seq ?_); refine rgx [4, 5] ?_
    (repeat refine DX_seq ?_); refine DX_ret ?_; refine retx ?_; (try dsimp only [outV, unlist])
    exact Fin_tup (.cons rfl rfl Fin_nil (.cons rfl rfl (Fin_pure rfl) .nil))
end Go.Proofs.YtedioenakmgdiaaDoor

namespace Go.Proofs.YtedioenakmgdiaaDoor
set_option linter.unusedSimpArgs false
set_option linter.unusedVariables false
set_option maxRecDepth 10000
open Go.RowKit
theorem addGs_len (b : List Gr) (g : Gr) : (addGs b g).length ≤ 257 := by
  unfold addGs
  split
  · rename_i hc
    obtain ⟨hl, _⟩ := chk_good hc
    have hi := ins_len b g
    repeat' split
    all_goals omega
  · exact Nat.zero_le _
theorem addE_ok {b : List Gr} {g : Gr} (h : addE b g = 0) : chkS b = 0 ∧ rightB g = true ∧ b.length ≠ 256 ∧ twB b g = false ∧ addGs b g = insS b g := by
  unfold addE at h
  unfold addGs
  split at h
  · rename_i h1
    split at h
    · rename_i h2
      split at h
      · cases h
      · rename_i h3
        split at h
        · cases h
        · rename_i h4
          rw [if_pos h1, if_pos h2, if_neg h3, if_neg h4]
          exact ⟨h1, h2, h3, by simpa using h4, rfl⟩
    · cases h
  · cases h
theorem addE_same {b : List Gr} {g : Gr} (hc : chkS b = 0) (h : addE b g ≠ 0) : addGs b g = b := by
  unfold addE at h
  unfold addGs
  rw [if_pos hc] at h ⊢
  split
  · rename_i h2
    rw [if_pos h2] at h
    split
    · rfl
    · rename_i h3
      rw [if_neg h3] at h
      split
      · rfl
      · rename_i h4
        rw [if_neg h4] at h
        exact absurd rfl h
  · rfl
theorem good_of {c : List Gr} : ∀ n, n ≤ c.length → (∀ k, k < n → rightB (c.getD k gz) = true) → (∀ k, k + 1 < n → apartB (c.getD k gz) (c.getD (k + 1) gz) = true) → goodN c n = true
  | 0, _, _, _ => rfl
  | n + 1, hn, h1, h2 => by
    rw [goodN, good_of n (by omega) (fun k hk => h1 k (by omega)) (fun k hk => h2 k (by omega)), h1 n (by omega)]
    cases n with
    | zero => rfl
    | succ m =>
      have := h2 m (by omega)
      simp only [Nat.add_sub_cancel, this, Bool.or_true, Bool.and_true]
theorem ins_at (b : List Gr) (g : Gr) (k : Nat) : (insS b g).getD k gz = if k < posN b g then b.getD k gz else if k = posN b g then g else b.getD (k - 1) gz := by
  have hp := posN_le b g
  unfold insS
  have hl : (b.take (posN b g)).length = posN b g := by rw [List.length_take]; omega
  simp only [List.getD_eq_getElem?_getD]
  split
  · rename_i h
    rw [List.getElem?_append_left (by omega), List.getElem?_take, if_pos h]
  · split
    · rename_i h1 h2
      rw [List.getElem?_append_right (by omega), hl, h2, Nat.sub_self]
      rfl
    · rename_i h1 h2
      rw [List.getElem?_append_right (by omega), hl, show k - posN b g = (k - posN b g - 1) + 1 by omega, List.getElem?_cons_succ, List.getElem?_drop]
      congr 2
      omega
theorem ins_good {b : List Gr} {g : Gr} (h : goodN b b.length = true) (hr : rightB g = true) (ht : twB b g = false) : goodN (insS b g) (insS b g).length = true := by
  have hp := posN_le b g
  have hl := ins_len b g
  unfold twB at ht
  simp only [Bool.or_eq_false_iff, Bool.and_eq_false_iff, decide_eq_false_iff_not, Bool.not_eq_false'] at ht
  refine good_of _ (Nat.le_refl _) (fun k hk => ?_) (fun k hk => ?_)
  · rw [ins_at]
    split
    · exact good_right h (by omega)
    · split
      · exact hr
      · exact good_right h (by omega)
  · rw [ins_at, ins_at]
    by_cases h1 : k + 1 < posN b g
    · rw [if_pos (by omega), if_pos h1]
      exact good_next h (by omega)
    · by_cases h2 : k + 1 = posN b g
      · rw [if_pos (by omega), if_neg h1, if_pos h2]
        have := ht.1
        rw [← h2] at this
        simpa using this
      · rw [if_neg (by omega), if_neg h1, if_neg h2]
        by_cases h3 : k = posN b g
        · rw [if_pos h3]
          have := ht.2
          rw [← h3] at this
          simpa [show k < b.length by omega] using this
        · rw [if_neg h3]
          have := good_next h (k := k - 1) (by omega)
          rwa [show k - 1 + 1 = k + 1 - 1 by omega] at this
theorem chk_of {c : List Gr} (hl : c.length ≤ 256) (h : goodN c c.length = true) : chkS c = 0 := by
  unfold chkS
  rw [if_neg (by omega), if_pos h]
theorem hit_iff {g : Gr} {sv at' : Int} : hitB g sv at' = true ↔ (g.sv = sv ∧ g.fr ≤ at' ∧ at' ≤ g.un) := by unfold hitB; simp
theorem hit_one {c : List Gr} (h : goodN c c.length = true) {sv at' : Int} {i j : Nat} (hi : i < c.length) (hj : j < c.length) (h1 : hitB (c.getD i gz) sv at' = true) (h2 : hitB (c.getD j gz) sv at' = true) : i = j := by
  rw [hit_iff] at h1 h2
  rcases Nat.lt_trichotomy i j with h3 | h3 | h3
  · have := good_apart h h3 hj
    rw [apart_iff] at this
    omega
  · exact h3
  · have := good_apart h h3 hi
    rw [apart_iff] at this
    omega
theorem hit_uniq {c : List Gr} (h : goodN c c.length = true) (sv at' : Int) : ∀ k, k < c.length → hitB (c.getD k gz) sv at' = decide (k = hitN c sv at') := fun k hk => by
  have hs := hitN_spec c sv at'
  rcases Nat.lt_or_ge (hitN c sv at') k with h1 | h1
  · rw [decide_eq_false (by omega)]
    cases h2 : hitB (c.getD k gz) sv at' with
    | false => rfl
    | true =>
      have h3 := hs (hitN c sv at') (by omega) (Nat.le_refl _)
      rw [decide_eq_true rfl] at h3
      have := hit_one h hk (by omega) h2 h3
      omega
  · exact hs k hk h1
theorem find_at {c : List Gr} (h : goodN c c.length = true) (hc : chkS c = 0) {sv at' : Int} {k : Nat} (hk : k < c.length) (hh : hitB (c.getD k gz) sv at' = true) : findE c sv at' = 0 ∧ findG c sv at' = c.getD k gz := by
  have := hit_uniq h sv at' k hk
  rw [hh] at this
  have hkp : k = hitN c sv at' := of_decide_eq_true this.symm
  unfold findE findG
  rw [if_pos hc, if_pos hc, ← hkp, if_pos hk]
  exact ⟨rfl, rfl⟩
theorem ins_get (b : List Gr) (g : Gr) : posN b g < (insS b g).length ∧ (insS b g).getD (posN b g) gz = g := by
  have hp := posN_le b g
  have hl := ins_len b g
  refine ⟨by omega, ?_⟩
  rw [ins_at, if_neg (by omega), if_pos rfl]
theorem ins_old (b : List Gr) (g : Gr) {k : Nat} (hk : k < b.length) : ∃ j, j < (insS b g).length ∧ (insS b g).getD j gz = b.getD k gz := by
  have hl := ins_len b g
  by_cases h : k < posN b g
  · exact ⟨k, by omega, by rw [ins_at, if_pos h]⟩
  · exact ⟨k + 1, by omega, by rw [ins_at, if_neg (by omega), if_neg (by omega), Nat.add_sub_cancel]⟩
theorem ins_finds {b : List Gr} {g : Gr} (hw : addE b g = 0) (sv at' : Int) :
    addGs b g = insS b g ∧ chkS (insS b g) = 0 ∧ (insS b g).length = b.length + 1 ∧ (insS b g).length ≤ 256 ∧ (findE (insS b g) g.sv g.fr = 0 ∧ findG (insS b g) g.sv g.fr = g) ∧ (findE (insS b g) g.sv g.un = 0 ∧ findG (insS b g) g.sv g.un = g) ∧
      (findE b sv at' = 0 → findE (insS b g) sv at' = 0 ∧ findG (insS b g) sv at' = findG b sv at') ∧ (∀ k, k < (insS b g).length → hitB ((insS b g).getD k gz) sv at' = decide (k = hitN (insS b g) sv at')) ∧ (findE (insS b g) sv at' = if hitN (insS b g) sv at' < (insS b g).length then 0 else 3) := by
  obtain ⟨h1, h2, h3, h4, h5⟩ := addE_ok hw
  obtain ⟨hl, hg⟩ := chk_good h1
  have hi := ins_len b g
  have hgi := ins_good hg h2 h4
  have hci := chk_of (by omega) hgi
  have hr := right_le h2
  obtain ⟨p1, p2⟩ := ins_get b g
  refine ⟨h5, hci, hi, by omega, ?_, ?_, fun hf => ?_, hit_uniq hgi sv at', by unfold findE; rw [if_pos hci]⟩
  · have := find_at hgi hci p1 (sv := g.sv) (at' := g.fr) (by rw [p2, hit_iff]; omega)
    rwa [p2] at this
  · have := find_at hgi hci p1 (sv := g.sv) (at' := g.un) (by rw [p2, hit_iff]; omega)
    rwa [p2] at this
  · unfold findE at hf
    rw [if_pos h1] at hf
    have hp : hitN b sv at' < b.length := by
      split at hf
      · assumption
      · cases hf
    have hh := hit_uniq hg sv at' _ hp
    rw [decide_eq_true rfl] at hh
    obtain ⟨j, j1, j2⟩ := ins_old b g hp
    have := find_at hgi hci j1 (sv := sv) (at' := at') (by rw [j2]; exact hh)
    rw [this.2, j2]
    refine ⟨this.1, ?_⟩
    unfold findG
    rw [if_pos h1]
end Go.Proofs.YtedioenakmgdiaaDoor

namespace Go.Proofs.YtedioenakmgdiaaDoor
set_option linter.unusedSimpArgs false
set_option linter.unusedVariables false
set_option maxRecDepth 10000
open Go.RowKit
theorem deci (e : Int) : decide (e = e) = true := by simp
theorem decl (l : List Int) : decide (l = l) = true := by simp
set_option maxHeartbeats 16000000 in
theorem bookAdds_w (b : List Gr) (g : Gr) (hb : b.length ≤ 2199023255552) : PC (envOf Tryd.prog) 11 [bkD b, grD g] (bD true) := by
  have lv := lives06_c
  have k1 := bkadd_c b g
  have k2 := refadd_c b g
  have k3 := check_c b
  have k4 := refcheck_c b
  have hal := addGs_len b g
  have k5 := sameG_c (addGs b g) (addGs b g) (by omega) (fun i _ _ => by rw [eqG_refl, decide_eq_true rfl])
  rw [decide_eq_true rfl] at k5
  have k6 := servers_c b hb
  have k7 := refservers_c b hb
  have hsl := srvN_len b b.length
  have k8 := sameI_c (srvN b b.length) (srvN b b.length) (by omega)
  rw [decide_eq_true rfl] at k8
  unfold beD at k1 k2
  generalize addGs b g = c at *
  generalize addE b g = e at *
  generalize chkS b = q at *
  generalize srvN b b.length = sr at *
  have hX := and_true; refine PC_atX Tryd.func11 rfl Tryd.ntmps11 Tryd.results11 rfl (by simp only [argsL, Nat.reduceAdd, u32D, u8D, iD, bD, strD, u32_xor, u32_or, u32_and, u32_add, u32_not, u32_shr, u32_shl, u8_u32, u32_u8]; exact rfl) ?_; intro w0 A
  have hX := And.intro grD_eq (deci)
  (repeat refine DX_seq ?_); refine DX_reg [0, 3] ?_; intro w0 A S0 f0; (repeat ((with_reducible show DR _ _ _ (_ :: _) _); first | (refine cx _ (envG _ _ _ _ _ _) rfl rfl rfl rfl rfl ?_ (hc := by first | exact lv | exact k1 | exact k2 | exact k3 | exact k4 | exact k5 | exact k6 | exact k7 | exact k8))  | (refine sx ?_))); refine DR_nil ?_; refine kl1 ?_
  (repeat refine DX_seq ?_); refine DX_reg [0, 3, 5, 6] ?_; intro w0 A S0 f0
  (repeat ((with_reducible show DR _ _ _ (_ :: _) _); first | (refine cx _ (envG _ _ _ _ _ _) rfl rfl rfl rfl rfl ?_ (hc := by first | exact lv | exact k1 | exact k2 | exact k3 | exact k4 | exact k5 | exact k6 | exact k7 | exact k8))  | (refine sx ?_))); refine DR_nil ?_; refine kl1 ?_
  (repeat refine DX_seq ?_); refine DX_reg [0, 5, 6, 7, 8] ?_; intro w0 A S0 f0
  (repeat ((with_reducible show DR _ _ _ (_ :: _) _); first | (refine cx _ (envG _ _ _ _ _ _) rfl rfl rfl rfl rfl ?_ (hc := by first | exact lv | exact k1 | exact k2 | exact k3 | exact k4 | exact k5 | exact k6 | exact k7 | exact k8))  | (refine sx ?_))); refine DR_nil ?_; refine kl1 ?_
  (repeat refine DX_seq ?_); refine DX_reg [4] ?_; intro w0 A S0 f0
  (repeat (first | (refine gtx rfl rfl ?_) | (refine gx ?_) | ((with_reducible show DR _ _ _ (_ :: _) _); first | (refine cx _ (envG _ _ _ _ _ _) rfl rfl rfl rfl rfl ?_ (hc := by first | exact lv | exact k1 | exact k2 | exact k3 | exact k4 | exact k5 | exact k6 | exact k7 | exact k8))  | (refine sx ?_)))); refine DR_nil ?_; refine kl1 ?_
  (repeat refine DX_seq ?_); refine DX_ret ?_; refine retx ?_; (try dsimp only [outV, unlist])
  exact Fin_pure rfl
set_option maxHeartbeats 16000000 in
theorem bookFinds_w (b : List Gr) (sv at' : Int) (text sig : List UInt8) (h32 : ∀ x ∈ b, x.rt.length = 32) : PC (envOf Tryd.prog) 12 [bkD b, iD sv, iD at', strD text, strD sig] (bD true) := by
  have lv := lives06_c
  by_cases c1 : 16384 < text.length
  · have d1 : decide ((16384 : Int) < (text.length : Int)) = true := decide_eq_true (by omega)
    have hX := and_true; refine PC_atX Tryd.func12 rfl Tryd.ntmps12 Tryd.results12 rfl (by simp only [argsL, Nat.reduceAdd, u32D, u8D, iD, bD, strD, u32_xor, u32_or, u32_and, u32_add, u32_not, u32_shr, u32_shl, u8_u32, u32_u8]; exact rfl) ?_; intro w0 A
    have hX := And.intro d1 (and_true)
    have hK := And.intro (lv) trivial; (repeat refine DX_seq ?_); refine rgx [0, 1, 2, 3, 4] ?_
    (repeat refine DX_seq ?_); refine rgx [0, 1, 2, 3, 4, 17] ?_
    (repeat refine DX_seq ?_); refine iftx ?_
    (repeat refine DX_seq ?_); refine rgx [10] ?_
    (repeat refine DX_seq ?_); refine DX_ret ?_; refine retx ?_; (try dsimp only [outV, unlist])
    exact Fin_pure rfl
  have d1 : decide ((16384 : Int) < (text.length : Int)) = false := decide_eq_false (by omega)
  obtain ⟨e', k3, k4⟩ := bkverify_ex b sv at' text sig (by omega) h32
  have k1 := find_c b sv at'
  have k2 := reffind_c b sv at'
  unfold geD at k1 k2
  generalize findG b sv at' = x at *
  generalize findE b sv at' = e at *
  have hX := and_true; refine PC_atX Tryd.func12 rfl Tryd.ntmps12 Tryd.results12 rfl (by simp only [argsL, Nat.reduceAdd, u32D, u8D, iD, bD, strD, u32_xor, u32_or, u32_and, u32_add, u32_not, u32_shr, u32_shl, u8_u32, u32_u8]; exact rfl) ?_; intro w0 A
  have hX := And.intro d1 (And.intro grD_eq (And.intro deci (decl)))
  have hK := And.intro (lv) (And.intro (k1) (And.intro (k2) (And.intro (k3) (And.intro (k4) trivial)))); (repeat refine DX_seq ?_); refine rgx [0, 1, 2, 3, 4] ?_
  (repeat refine DX_seq ?_); refine rgx [0, 1, 2, 3, 4, 17] ?_
  (repeat refine DX_seq ?_); refine iffx ?_
  (repeat refine DX_seq ?_); refine DX_skip ?_
  (repeat refine DX_seq ?_); refine rgx [0, 1, 2, 3, 4, 11, 12] ?_
  (repeat refine DX_seq ?_); refine rgx [0, 1, 2, 3, 4, 11, 12, 13, 14] ?_
  (repeat refine DX_seq ?_); refine DX_reg [10] ?_; intro w0 A S0 f0
  (repeat (first | (refine gtx rfl rfl ?_) | (refine gx ?_) | ((with_reducible show DR _ _ _ (_ :: _) _); first | (refine cx _ (envG _ _ _ _ _ _) rfl rfl rfl rfl rfl ?_ (hc := by first | exact lv | exact k1 | exact k2 | exact k3 | exact k4))  | (refine sx ?_)) | (refine eqsx 3 _ rfl rfl rfl rfl (.inl rfl) (by kernel_rfl) (by kernel_rfl) rfl ?_))); refine DR_nil ?_; refine kl1 ?_
  (repeat refine DX_seq ?_); refine DX_ret ?_; refine retx ?_; (try dsimp only [outV, unlist])
  exact Fin_pure rfl
end Go.Proofs.YtedioenakmgdiaaDoor

namespace Go.Proofs.YtedioenakmgdiaaDoor
set_option linter.unusedSimpArgs false
set_option linter.unusedVariables false
set_option maxRecDepth 10000
open Go.RowKit Go.ChangeShapes Go.WideShapes
theorem sl_len {α : Type} {l : List α} {z : α} {e : α → D} {w : World} {S : Nat → Prop} {v : Value} (h : RVI w S v (.sl l z e)) : ∃ a cap, v = .slice a l.length cap := by
  have h' : RI w S v (.sl l z e) := h
  cases h' with
  | sl0 => exact ⟨_, _, rfl⟩
  | sl => exact ⟨_, _, rfl⟩
section
variable {P : Program} {H : Type} {enc : TypeId × Value → H} {W : World} {base : Nat} {sp : Nat → Bool} {held : Bool}
theorem trod_len {t et : Nat} (ht : P.underlying t = some (.slice et)) {a0 : Option Addr} {len cap : Nat} {d : DataW H} {ps : List MemPlace} (hd : DataW.Trod enc P W base sp held t (.slice a0 len cap) d ps) : len = 0 ∨ ∃ elems spare, d = .slice elems spare ∧ elems.length = len := by
  obtain ⟨fuel, hf⟩ := hd
  cases fuel with
  | zero => simp [DataW.trod] at hf
  | succ m =>
    cases a0 with
    | none =>
      by_cases h : len = 0
      · exact .inl h
      · exfalso
        simp only [DataW.trod, ht, Value.cells] at hf
        split at hf <;> simp_all
    | some a =>
      simp only [DataW.trod, ht, Value.cells] at hf
      split at hf
      · obtain ⟨elems, hm, hk⟩ := Option.bind_eq_some_iff.1 hf
        obtain ⟨rest, _, hr⟩ := Option.map_eq_some_iff.1 hk
        simp only [Prod.mk.injEq] at hr
        refine .inr ⟨_, _, hr.1.symm, ?_⟩
        have := Lib.mapM_length hm
        simpa using this
      · cases hf
theorem slice_reach {ts : List TypeId} {ds : List (DataW H)} (hsz : (DataW.weightsEach P ts ds).all (· ≤ reachBytes) = true) {j : Nat} {t et : TypeId} {d : DataW H} (hj : ts[j]? = some t) (hd : ds[j]? = some d) (ht : P.underlying t = some (.slice et)) {v : Value} {ps : List MemPlace} (hT : DataW.Trod enc P W base sp held t v d ps)
    {α : Type} {l : List α} {z : α} {e : α → D} {S : Nat → Prop} (hR : RVI W S v (.sl l z e)) : l.length * P.bytesOf et ≤ 140737488351232 := by
  obtain ⟨a, cap, rfl⟩ := sl_len hR
  rcases trod_len ht hT with h | ⟨elems, spare, rfl, h⟩
  · rw [h]; simp
  · have h1 := sized_slice hsz hj hd ht
    rw [← h]
    refine Nat.le_trans (Nat.mul_le_mul_right _ (Nat.le_add_right elems.length spare.length)) (Nat.le_trans h1 ?_)
    decide
end
end Go.Proofs.YtedioenakmgdiaaDoor

namespace Go.Proofs.YtedioenakmgdiaaDoor
set_option linter.unusedSimpArgs false
set_option linter.unusedVariables false
set_option maxRecDepth 10000
open Go.RowKit Go.ChangeShapes Go.WideShapes
/-- the grant of zeros -/
def grW : Value := .agg #[.int .i64 0, .int .i64 0, .int .i64 0, .int .i64 0, .int .u8 0, .int .u8 0, .int .u8 0, .int .u8 0, .int .u8 0, .int .u8 0, .int .u8 0, .int .u8 0, .int .u8 0, .int .u8 0, .int .u8 0, .int .u8 0, .int .u8 0, .int .u8 0, .int .u8 0, .int .u8 0, .int .u8 0, .int .u8 0, .int .u8 0, .int .u8 0, .int .u8 0, .int .u8 0, .int .u8 0, .int .u8 0, .int .u8 0, .int .u8 0, .int .u8 0, .int .u8 0, .int .u8 0, .int .u8 0, .int .u8 0, .int .u8 0]
def grWD {H : Type} : DataW H := .agg [.lit (.int .i64 0), .lit (.int .i64 0), .lit (.int .i64 0), .lit (.int .i64 0), .agg (List.replicate 32 (.lit (.int .u8 0)))]
section
variable {H : Type} {enc : TypeId × Value → H} {W : World} {base : Nat} {sp : Nat → Bool} {held : Bool} {r : Reach} {b0 : Nat} {v : Value} {d : DataW H} {ps : List MemPlace}
def grT (p : Int × Int × Int × Int × List UInt8 × Unit) : Gr := ⟨p.1, p.2.1, p.2.2.1, p.2.2.2.1, p.2.2.2.2.1⟩
theorem elem_gr : ElemR Tryd.prog enc W base sp held (fun p => grD (grT p)) (fun p => ((Lit.int .i64 p.1).wf = true ∧ (Lit.int .i64 p.2.1).wf = true ∧ (Lit.int .i64 p.2.2.1).wf = true ∧ (Lit.int .i64 p.2.2.2.1).wf = true ∧ p.2.2.2.2.1.length = 32 ∧ True)) 68 :=
  have h := elem_struct (enc := enc) (W := W) (base := base) (sp := sp) (held := held) (N := 36) Tryd.underlying68 (by kernel_rfl)
    (FldR.cons (sz := 1) rfl (by kernel_rfl) (by decide) (elem_int Tryd.underlying3 (by kernel_rfl))
      (FldR.cons (sz := 1) rfl (by kernel_rfl) (by decide) (elem_int Tryd.underlying2 (by kernel_rfl))
        (FldR.cons (sz := 1) rfl (by kernel_rfl) (by decide) (elem_int Tryd.underlying2 (by kernel_rfl))
          (FldR.cons (sz := 1) rfl (by kernel_rfl) (by decide) (elem_int Tryd.underlying3 (by kernel_rfl))
            (FldR.cons (sz := 32) rfl (by kernel_rfl) (by decide) (elem_bytes Tryd.underlying24 Tryd.underlying5 (by kernel_rfl) (by kernel_rfl) hashD (fun h i _ => rfl) (fun h => rfl)) FldR.nil)))))
  h
theorem read_gr (hval : Value.okWide Tryd.prog W r b0 68 v) (hd : DataW.Trod enc Tryd.prog W base sp held 68 v d ps) :
    ∃ g : Gr, g.rt.length = 32 ∧ RVI W (fun b => b < W.heap.size) v (grD g) := by
  obtain ⟨p, hg, hR⟩ := read_struct (t := 68) Tryd.underlying68 (fun _ => rfl) elem_gr hval hd
  exact ⟨grT p, hg.2.2.2.2.1, hR⟩
theorem read_grs (hval : Value.okWide Tryd.prog W r b0 66 v) (hd : DataW.Trod enc Tryd.prog W base sp held 66 v d ps) :
    ∃ l : List Gr, (∀ x ∈ l, x.rt.length = 32) ∧ RVI W (fun b => b < W.heap.size) v (bkD l) := by
  have hel : ElemR Tryd.prog enc W base sp held grD (fun g : Gr => g.rt.length = 32) 68 := fun fuel cs y hf hl => by
    obtain ⟨p, hg, h1, h2⟩ := elem_gr fuel cs y hf hl
    exact ⟨grT p, hg.2.2.2.2.1, h1, h2⟩
  obtain ⟨l, h, _, hR⟩ := read_slice gz grD (fun g : Gr => g.rt.length = 32) Tryd.underlying66 (by rw [show Tryd.prog.cellsOf 68 = 36 by kernel_rfl]; decide) hel hval hd
  exact ⟨l, h, hR⟩
end
end Go.Proofs.YtedioenakmgdiaaDoor
