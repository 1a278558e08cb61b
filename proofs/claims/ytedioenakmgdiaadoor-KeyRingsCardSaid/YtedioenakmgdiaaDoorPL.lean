/- A pointer compared with nil; calls that read through a pointer to an own block. It speaks of no program of ours. A ring signs as its key does, walked. -/
import Derived.Test.YtedioenakmgdiaaDoorPD
import Derived.Laws.Pointers
import Derived.Test.YtedioenakmgdiaaDoorPX
import Derived.Test.YtedioenakmgdiaaDoorPW
import Derived.Test.YtedioenakmgdiaaDoorPM
import Derived.Test.YtedioenakmgdiaaDoorPS
namespace Go.Proofs.YtedioenakmgdiaaDoor
set_option linter.unusedSimpArgs false
set_option linter.unusedVariables false
set_option maxRecDepth 10000
open Go.RowKit
def nilB : D → Option Bool
  | .v (.pointer none) => some true
  | .ptr _ _ => some false
  | .ip _ => some false
  | _ => none
theorem nilB_val {C : Cx} {w : World} {bs : List (Option Nat)} {x : Value} {d : D} {r : Bool} (h : RV C w bs x d) (hd : nilB d = some r) : ∃ p : Option Addr, x = .pointer p ∧ p.isNone = r := by
  unfold nilB at hd
  split at hd
  · simp only [Option.some.injEq] at hd
    subst hd
    exact ⟨none, (RV_v h).1, rfl⟩
  · simp only [Option.some.injEq] at hd
    subst hd
    have h' : R1 C w bs x _ := h
    cases h' with
    | ptr hb => exact ⟨_, rfl, rfl⟩
    | im hi => cases hi
  · simp only [Option.some.injEq] at hd
    subst hd
    have h' : R1 C w bs x _ := h
    cases h' with
    | im hi => cases hi with
      | ip => exact ⟨_, rfl, rfl⟩
  · cases hd
theorem DQ_nilp {C : Cx} {o : Oper} {h : List (Option Bk)} {op : BinOp} {t u : Nat} {x y : Operand} {d : D} {r : Bool} (ho : o.op = .binOp op t x y u) (hu : C.P.underlying t = some (.pointer (C.P.pointee t))) (hop : op = .eql ∨ op = .neq) (hd : nilB d = some r) : DQ C o [d, .v (.pointer none)] h (.v (.bool (if op = .eql then r else !r))) := DQ_val fun bs w ρ hw hargs => by
  rw [ho] at hargs
  obtain ⟨a', b', h1, h2, h3⟩ := All2.two (a := x) (b := y) hargs
  cases h1
  obtain ⟨p, e1, e2⟩ := nilB_val h2 hd
  have e3 := (RV_v h3).1
  refine ⟨_, ?_, R1.im (.v rfl)⟩
  rcases hop with rfl | rfl
  · simp [execOp, ho, e1, e3, Sem.run_bind, run_eql_pointer_nil _ _ _ hu, ← e2, eqGuard]
  · simp [execOp, ho, e1, e3, Sem.run_bind, run_neq_pointer_nil _ _ _ hu, ← e2, eqGuard]
theorem Le_ptr {h : List (Option Bk)} {l : Nat} {d : D} (hl : h[l]? = some (some (.one d))) (hp : pureD d = true) : Le h (.ptr l 0) (.ip d) := fun C w bs x hw hx => by
  have hx' : R1 C w bs x (.ptr l 0) := hx
  show RI w _ x (.ip d)
  cases hx' with
  | im hi => cases hi
  | @ptr _ _ b hb =>
    rcases hw.blk l _ hl with ⟨b', hb', hB⟩ | ⟨_, _, h0, _⟩
    · have : b' = b := by rw [hb] at hb'; injection hb' with h1; injection h1 with h2; exact h2.symm
      subst this
      obtain ⟨cs, T, fz, g1, g2, g3, g4⟩ := hB
      have hlt : b' < w.heap.size := (Array.getElem?_eq_some_iff.1 g1).1
      refine .ip (fun j => cs.getD j undef) hlt (fun j hj => ?_) (fun j hj => ?_)
      · have hj' : j < cs.size := by omega
        simp [World.cell?, g1, hj']
      · have hj' : j < cs.size := by omega
        have := (g4 j hj').pure (pure_cell hp j)
        simp only [Array.getD_eq_getD_getElem?, Array.getElem?_eq_getElem hj', Option.getD_some]
        exact this.mono fun b hb => ⟨hb.2.1, rfl⟩
    · cases h0
section
variable {E : Env} {C : Cx} {ops : Array Oper} {K : St → Prop} {o : Oper} {rest : List Oper} {s : Nat → D} {h : List (Option Bk)} {op : BinOp} {ty u : Nat} {x y : Operand} {d d0 : D} {r r' : Bool} {l : Nat} {f : FuncId} {g : Operand} {args : Array Operand} {ts : Array TypeId}
theorem npx (t : Nat) (hg : o.guard = none) (hd : o.dst = some t) (ht' : Nat.blt t C.n = true) (ho : o.op = .binOp op ty x y u) (hop : op = .eql ∨ op = .neq) (hu : C.P.underlying ty = some (.pointer (C.P.pointee ty))) (k : DR C ops K rest ⟨upd s t (.v (.bool r')), h⟩)
    (e : argsD C ⟨s, h⟩ o = [d, .v (.pointer none)] := by simp only [byteD, implies_true, setD, bslF, buildF, buildL, List.zip_cons_cons, List.zip_nil_right, List.zip_nil_left, pureD, rng0, rng1, rng2, rng3, rng4, rng5, rng6, rng7, rng8, List.getD_cons_zero, List.getD_cons_succ, Nat.reduceLeDiff, decide_true, decide_false, List.all_cons, List.all_nil, dqF, nilF, callQ, argsD, Op.operands, Call.operands, evD, cD, gip, upd, look, List.map, List.map_cons, List.map_nil, binF, binI, shI, binS, unF, wD, kLo, kHi, kMod, kBits, convF, loadF, fieldF, faddrF, indexF, iaddrF, lenF, lenD, sliceF, sliceF3, minF, sliceD, cutL, bndF, sub, nc, aggT, aggB, scB, tnth, elems, L_B, L_mk, List.getElem?_cons_zero, List.getElem?_cons_succ, reduceIte, reduceCtorEq, Option.isSome, List.toList_toArray, Nat.reduceAdd, Nat.reduceSub, Nat.reduceMul, Nat.reduceEqDiff, Nat.reduceLT, Nat.reduceBEq, mkF, mkG, Bool.and_true, Bool.true_and, Bool.and_false, Bool.false_and, beq_self_eq_true, mkC, Int.reduceToNat, Int.toNat_natCast, Int.reduceAdd, Int.reduceSub, Int.reduceMul, Nat.zero_add, Nat.add_zero, Nat.mul_one, and_true, true_and, Option.getD_some, Option.getD_none, ne_eq, not_true_eq_false, not_false_eq_true, decide_not, Bool.not_true, Bool.not_false, Int.reduceLT, Int.reduceLE, Int.reduceEq, Int.reduceNe, Int.reduceGT, Int.reduceGE, gt_iff_lt, ge_iff_le, Nat.reduceLT, Nat.reduceLeDiff, u32D, u8D, iD, bD, strD, u32_xor, u32_or, u32_and, u32_add, u32_not, u32_shr, u32_shl, u8_u32, u32_u8, envOf, tyT, gtab, hX]; exact rfl) (hn : nilB d = some r := by exact rfl) (er : (if op = .eql then r else !r) = r' := by simp only [byteD, implies_true, setD, bslF, buildF, buildL, List.zip_cons_cons, List.zip_nil_right, List.zip_nil_left, pureD, rng0, rng1, rng2, rng3, rng4, rng5, rng6, rng7, rng8, List.getD_cons_zero, List.getD_cons_succ, Nat.reduceLeDiff, decide_true, decide_false, List.all_cons, List.all_nil, dqF, nilF, callQ, argsD, Op.operands, Call.operands, evD, cD, gip, upd, look, List.map, List.map_cons, List.map_nil, binF, binI, shI, binS, unF, wD, kLo, kHi, kMod, kBits, convF, loadF, fieldF, faddrF, indexF, iaddrF, lenF, lenD, sliceF, sliceF3, minF, sliceD, cutL, bndF, sub, nc, aggT, aggB, scB, tnth, elems, L_B, L_mk, List.getElem?_cons_zero, List.getElem?_cons_succ, reduceIte, reduceCtorEq, Option.isSome, List.toList_toArray, Nat.reduceAdd, Nat.reduceSub, Nat.reduceMul, Nat.reduceEqDiff, Nat.reduceLT, Nat.reduceBEq, mkF, mkG, Bool.and_true, Bool.true_and, Bool.and_false, Bool.false_and, beq_self_eq_true, mkC, Int.reduceToNat, Int.toNat_natCast, Int.reduceAdd, Int.reduceSub, Int.reduceMul, Nat.zero_add, Nat.add_zero, Nat.mul_one, and_true, true_and, Option.getD_some, Option.getD_none, ne_eq, not_true_eq_false, not_false_eq_true, decide_not, Bool.not_true, Bool.not_false, Int.reduceLT, Int.reduceLE, Int.reduceEq, Int.reduceNe, Int.reduceGT, Int.reduceGE, gt_iff_lt, ge_iff_le, Nat.reduceLT, Nat.reduceLeDiff]; exact rfl) : DR C ops K (o :: rest) ⟨s, h⟩ := by
  subst er
  exact DR_c t hg hd ht' e (DQ_nilp ho hu hop hn) k
theorem cpx (t : Nat) (hE : EnvC E C) (hg : o.guard = none) (hd : o.dst = some t) (ht' : Nat.blt t C.n = true) (ho : o.op = .call { callee := .value g, args := args, argTypes := ts }) (hf : fnB C.P f = true)
    (k : DR C ops K rest ⟨upd s t d, h⟩) (e : argsD C ⟨s, h⟩ o = [.fn f .nil, .ptr l 0] := by simp only [Array.toList_append, List.cons_append, List.nil_append, byteD, implies_true, setD, bslF, buildF, buildL, List.zip_cons_cons, List.zip_nil_right, List.zip_nil_left, pureD, rng0, rng1, rng2, rng3, rng4, rng5, rng6, rng7, rng8, List.getD_cons_zero, List.getD_cons_succ, Nat.reduceLeDiff, decide_true, decide_false, List.all_cons, List.all_nil, dqF, nilF, callQ, argsD, Op.operands, Call.operands, evD, cD, gip, upd, look, List.map, List.map_cons, List.map_nil, binF, binI, shI, binS, unF, wD, kLo, kHi, kMod, kBits, convF, loadF, fieldF, faddrF, indexF, iaddrF, lenF, lenD, sliceF, sliceF3, minF, sliceD, cutL, bndF, sub, nc, aggT, aggB, scB, tnth, elems, L_B, L_mk, List.getElem?_cons_zero, List.getElem?_cons_succ, reduceIte, reduceCtorEq, Option.isSome, List.toList_toArray, Nat.reduceAdd, Nat.reduceSub, Nat.reduceMul, Nat.reduceEqDiff, Nat.reduceLT, Nat.reduceBEq, mkF, mkG, Bool.and_true, Bool.true_and, Bool.and_false, Bool.false_and, beq_self_eq_true, mkC, Int.reduceToNat, Int.toNat_natCast, Int.reduceAdd, Int.reduceSub, Int.reduceMul, Nat.zero_add, Nat.add_zero, Nat.mul_one, and_true, true_and, Option.getD_some, Option.getD_none, ne_eq, not_true_eq_false, not_false_eq_true, decide_not, Bool.not_true, Bool.not_false, Int.reduceLT, Int.reduceLE, Int.reduceEq, Int.reduceNe, Int.reduceGT, Int.reduceGE, gt_iff_lt, ge_iff_le, Nat.reduceLT, Nat.reduceLeDiff, u32D, u8D, iD, bD, strD, u32_xor, u32_or, u32_and, u32_add, u32_not, u32_shr, u32_shl, u8_u32, u32_u8, envOf, tyT, gtab, hX]; exact rfl) (hl : h[l]? = some (some (.one d0)) := by exact rfl) (hp : pureD d0 = true := by rfl) (hc : PC E f [.ip d0] d) (hfl : flatD d = true := by rfl) : DR C ops K (o :: rest) ⟨s, h⟩ :=
  DR_c t hg hd ht' e (DQ_callf hE (cs := []) (xs := [.ptr l 0]) (ys := [.ip d0]) ho hf rfl (.cons (Le_ptr hl hp) .nil) hfl hc) k
theorem cpxq (t : Nat) (hE : EnvC E C) (hg : o.guard = none) (hd : o.dst = some t) (ht' : Nat.blt t C.n = true) (ho : o.op = .call { callee := .value g, args := args, argTypes := ts }) (hf : fnB C.P f = true)
    (k : DRq C ops K rest ⟨upd s t d, h⟩) (e : argsD C ⟨s, h⟩ o = [.fn f .nil, .ptr l 0] := by simp only [Array.toList_append, List.cons_append, List.nil_append, byteD, implies_true, setD, bslF, buildF, buildL, List.zip_cons_cons, List.zip_nil_right, List.zip_nil_left, pureD, rng0, rng1, rng2, rng3, rng4, rng5, rng6, rng7, rng8, List.getD_cons_zero, List.getD_cons_succ, Nat.reduceLeDiff, decide_true, decide_false, List.all_cons, List.all_nil, dqF, nilF, callQ, argsD, Op.operands, Call.operands, evD, cD, gip, upd, look, List.map, List.map_cons, List.map_nil, binF, binI, shI, binS, unF, wD, kLo, kHi, kMod, kBits, convF, loadF, fieldF, faddrF, indexF, iaddrF, lenF, lenD, sliceF, sliceF3, minF, sliceD, cutL, bndF, sub, nc, aggT, aggB, scB, tnth, elems, L_B, L_mk, List.getElem?_cons_zero, List.getElem?_cons_succ, reduceIte, reduceCtorEq, Option.isSome, List.toList_toArray, Nat.reduceAdd, Nat.reduceSub, Nat.reduceMul, Nat.reduceEqDiff, Nat.reduceLT, Nat.reduceBEq, mkF, mkG, Bool.and_true, Bool.true_and, Bool.and_false, Bool.false_and, beq_self_eq_true, mkC, Int.reduceToNat, Int.toNat_natCast, Int.reduceAdd, Int.reduceSub, Int.reduceMul, Nat.zero_add, Nat.add_zero, Nat.mul_one, and_true, true_and, Option.getD_some, Option.getD_none, ne_eq, not_true_eq_false, not_false_eq_true, decide_not, Bool.not_true, Bool.not_false, Int.reduceLT, Int.reduceLE, Int.reduceEq, Int.reduceNe, Int.reduceGT, Int.reduceGE, gt_iff_lt, ge_iff_le, Nat.reduceLT, Nat.reduceLeDiff, u32D, u8D, iD, bD, strD, u32_xor, u32_or, u32_and, u32_add, u32_not, u32_shr, u32_shl, u8_u32, u32_u8, envOf, tyT, gtab, hX]; exact rfl) (hl : h[l]? = some (some (.one d0)) := by exact rfl) (hp : pureD d0 = true := by rfl) (hc : PC E f [.ip d0] d) (hfl : flatD d = true := by rfl) : DRq C ops K (o :: rest) ⟨s, h⟩ :=
  DRq_c t hg hd ht' e (DQ_callf hE (cs := []) (xs := [.ptr l 0]) (ys := [.ip d0]) ho hf rfl (.cons (Le_ptr hl hp) .nil) hfl hc) k
end
end Go.Proofs.YtedioenakmgdiaaDoor

namespace Go.Proofs.YtedioenakmgdiaaDoor
set_option linter.unusedSimpArgs false
set_option linter.unusedVariables false
set_option maxRecDepth 10000
open Go.RowKit
theorem ringroot_c (s : List UInt8) (h n : Int) (l : List (List UInt8)) (rt : List UInt8) : PC (envOf Tryd.prog) 39 [.ip (ringD s h n l rt)] (hashD rt) := by
  have hh : ∀ h, hashD h = .arr .u8 32 (fun i => ((h.getD i 0).toNat : Int)) := fun _ => rfl
  have hX := and_true; refine PC_atX Tryd.func39 rfl Tryd.ntmps39 Tryd.results39 rfl (by simp only [argsL, Nat.reduceAdd, u32D, u8D, iD, bD, strD, u32_xor, u32_or, u32_and, u32_add, u32_not, u32_shr, u32_shl, u8_u32, u32_u8]; exact rfl) ?_; intro w0 A
  have hX := And.intro ringD_eq (hh)
  (repeat refine DX_seq ?_); refine rgx [0, 2] ?_
  (repeat refine DX_seq ?_); refine rgx [2] ?_
  (repeat refine DX_seq ?_); refine DX_ret ?_; refine retx ?_; (try dsimp only [outV, unlist])
  exact Fin_pure rfl
theorem ringkey_c (s : List UInt8) (h n : Int) (l : List (List UInt8)) (rt : List UInt8) : PC (envOf Tryd.prog) 43 [.ip (ringD s h n l rt)] (keyD s h n) := by
  have hh : ∀ h, hashD h = .arr .u8 32 (fun i => ((h.getD i 0).toNat : Int)) := fun _ => rfl
  have hX := and_true; refine PC_atX Tryd.func43 rfl Tryd.ntmps43 Tryd.results43 rfl (by simp only [argsL, Nat.reduceAdd, u32D, u8D, iD, bD, strD, u32_xor, u32_or, u32_and, u32_add, u32_not, u32_shr, u32_shl, u8_u32, u32_u8]; exact rfl) ?_; intro w0 A
  have hX := And.intro ringD_eq (hh)
  (repeat refine DX_seq ?_); refine rgx [0, 2] ?_
  (repeat refine DX_seq ?_); refine rgx [2] ?_
  (repeat refine DX_seq ?_); refine DX_ret ?_; refine retx ?_; (try dsimp only [outV, unlist])
  exact Fin_pure rfl
set_option maxHeartbeats 16000000 in
theorem keyRingsNo_w (lv : PC (envOf Tryd.prog) 26 [] (bD true)) (s : List UInt8) (h n : Int) (ts : List (List UInt8)) (hb : badK s h n) : PC (envOf Tryd.prog) 10 [keyD s h n, txsD ts] (bD true) := by
  have c1 := makeNo_c s h n hb
  have c2 := refcheckNo_c s h n hb
  by_cases hT : 40 < ts.length
  · have d1 : decide ((40 : Int) < (ts.length : Int)) = true := decide_eq_true (by omega)
    by_cases hA : 4 < h
    · have d2 : decide ((4 : Int) < h) = true := decide_eq_true hA
      by_cases hB : h ≤ 7
      · have d3 : decide (h ≤ (7 : Int)) = true := decide_eq_true hB
        have hX := and_true; refine PC_atX Tryd.func10 rfl Tryd.ntmps10 Tryd.results10 rfl (by simp only [argsL, Nat.reduceAdd, u32D, u8D, iD, bD, strD, u32_xor, u32_or, u32_and, u32_add, u32_not, u32_shr, u32_shl, u8_u32, u32_u8]; exact rfl) ?_; intro w0 A
        have hX := And.intro keyD_eq (And.intro txsD_eq (And.intro d1 (And.intro d2 (d3))))
        have hK := And.intro (lv) (And.intro (c1) (And.intro (c2) trivial)); (repeat refine DX_seq ?_); refine rgx [1, 2] ?_
        (repeat refine DX_seq ?_); refine rgx [1, 2, 16] ?_
        (repeat refine DX_seq ?_); refine iffx ?_
        (repeat refine DX_seq ?_); refine DX_skip ?_
        (repeat refine DX_seq ?_); refine rggx [1, 2, 29] ?_
        (repeat refine DX_seq ?_); refine iftx ?_
        (repeat refine DX_seq ?_); refine rgx [4] ?_
        (repeat refine DX_seq ?_); refine DX_ret ?_; refine retx ?_; (try dsimp only [outV, unlist])
        exact Fin_pure rfl
      · have d3 : decide (h ≤ (7 : Int)) = false := decide_eq_false hB
        have hX := and_true; refine PC_atX Tryd.func10 rfl Tryd.ntmps10 Tryd.results10 rfl (by simp only [argsL, Nat.reduceAdd, u32D, u8D, iD, bD, strD, u32_xor, u32_or, u32_and, u32_add, u32_not, u32_shr, u32_shl, u8_u32, u32_u8]; exact rfl) ?_; intro w0 A
        have hX := And.intro keyD_eq (And.intro txsD_eq (And.intro d1 (And.intro d2 (d3))))
        have hK := And.intro (lv) (And.intro (c1) (And.intro (c2) trivial)); (repeat refine DX_seq ?_); refine rgx [1, 2] ?_
        (repeat refine DX_seq ?_); refine rgx [1, 2, 16] ?_
        (repeat refine DX_seq ?_); refine iffx ?_
        (repeat refine DX_seq ?_); refine DX_skip ?_
        (repeat refine DX_seq ?_); refine rggx [1, 2, 29] ?_
        (repeat refine DX_seq ?_); refine iftx ?_
        (repeat refine DX_seq ?_); refine rgx [4] ?_
        (repeat refine DX_seq ?_); refine DX_ret ?_; refine retx ?_; (try dsimp only [outV, unlist])
        exact Fin_pure rfl
    · have d2 : decide ((4 : Int) < h) = false := decide_eq_false hA
      have hX := and_true; refine PC_atX Tryd.func10 rfl Tryd.ntmps10 Tryd.results10 rfl (by simp only [argsL, Nat.reduceAdd, u32D, u8D, iD, bD, strD, u32_xor, u32_or, u32_and, u32_add, u32_not, u32_shr, u32_shl, u8_u32, u32_u8]; exact rfl) ?_; intro w0 A
      have hX := And.intro keyD_eq (And.intro txsD_eq (And.intro d1 (d2)))
      have hK := And.intro (lv) (And.intro (c1) (And.intro (c2) trivial)); (repeat refine DX_seq ?_); refine rgx [1, 2] ?_
      (repeat refine DX_seq ?_); refine rgx [1, 2, 16] ?_
      (repeat refine DX_seq ?_); refine iffx ?_
      (repeat refine DX_seq ?_); refine DX_skip ?_
      (repeat refine DX_seq ?_); refine rggx [1, 2, 29] ?_
      (repeat refine DX_seq ?_); refine iftx ?_
      (repeat refine DX_seq ?_); refine rgx [4] ?_
      (repeat refine DX_seq ?_); refine DX_ret ?_; refine retx ?_; (try dsimp only [outV, unlist])
      exact Fin_pure rfl
  have d1 : decide ((40 : Int) < (ts.length : Int)) = false := decide_eq_false (by omega)
  by_cases hA : 4 < h
  · have d2 : decide ((4 : Int) < h) = true := decide_eq_true hA
    by_cases hB : h ≤ 7
    · have d3 : decide (h ≤ (7 : Int)) = true := decide_eq_true hB
      have hX := and_true; refine PC_atX Tryd.func10 rfl Tryd.ntmps10 Tryd.results10 rfl (by simp only [argsL, Nat.reduceAdd, u32D, u8D, iD, bD, strD, u32_xor, u32_or, u32_and, u32_add, u32_not, u32_shr, u32_shl, u8_u32, u32_u8]; exact rfl) ?_; intro w0 A
      have hX := And.intro keyD_eq (And.intro txsD_eq (And.intro d1 (And.intro d2 (d3))))
      have hK := And.intro (lv) (And.intro (c1) (And.intro (c2) trivial)); (repeat refine DX_seq ?_); refine rgx [1, 2] ?_
      (repeat refine DX_seq ?_); refine rgx [1, 2, 16] ?_
      (repeat refine DX_seq ?_); refine iffx ?_
      (repeat refine DX_seq ?_); refine DX_skip ?_
      (repeat refine DX_seq ?_); refine rggx [1, 2, 29] ?_
      (repeat refine DX_seq ?_); refine iftx ?_
      (repeat refine DX_seq ?_); refine rgx [4] ?_
      (repeat refine DX_seq ?_); refine DX_ret ?_; refine retx ?_; (try dsimp only [outV, unlist])
      exact Fin_pure rfl
    · have d3 : decide (h ≤ (7 : Int)) = false := decide_eq_false hB
      have hX := and_true; refine PC_atX Tryd.func10 rfl Tryd.ntmps10 Tryd.results10 rfl (by simp only [argsL, Nat.reduceAdd, u32D, u8D, iD, bD, strD, u32_xor, u32_or, u32_and, u32_add, u32_not, u32_shr, u32_shl, u8_u32, u32_u8]; exact rfl) ?_; intro w0 A
      have hX := And.intro keyD_eq (And.intro txsD_eq (And.intro d1 (And.intro d2 (d3))))
      have hK := And.intro (lv) (And.intro (c1) (And.intro (c2) trivial)); (repeat refine DX_seq ?_); refine rgx [1, 2] ?_
      (repeat refine DX_seq ?_); refine rgx [1, 2, 16] ?_
      (repeat refine DX_seq ?_); refine iffx ?_
      (repeat refine DX_seq ?_); refine DX_skip ?_
      (repeat refine DX_seq ?_); refine rggx [1, 2, 29] ?_
      (repeat refine DX_seq ?_); refine iffx ?_
      (repeat refine DX_seq ?_); refine DX_skip ?_
      (repeat refine DX_seq ?_); refine rgx [1, 2, 5, 6] ?_
      (repeat refine DX_seq ?_); refine rggx [1, 2, 5, 6, 41] ?_
      (repeat refine DX_seq ?_); refine iftx ?_
      (repeat refine DX_seq ?_); refine DX_reg [4] ?_; intro w0 A S0 f0; (repeat (first | (refine gtx rfl rfl ?_) | (refine gx ?_) | ((with_reducible show DR _ _ _ (_ :: _) _); first | (refine cx _ (envG _ _ _ _ _ _) rfl rfl rfl rfl rfl ?_ (hc := by first | exact lv | exact c1 | exact c2)) | (refine npx _ rfl rfl rfl rfl (.inl rfl) (by kernel_rfl) ?_) | (refine sx ?_)))); refine DR_nil ?_; refine kl1 ?_
      (repeat refine DX_seq ?_); refine DX_ret ?_; refine retx ?_; (try dsimp only [outV, unlist])
      exact Fin_pure rfl
  · have d2 : decide ((4 : Int) < h) = false := decide_eq_false hA
    have hX := and_true; refine PC_atX Tryd.func10 rfl Tryd.ntmps10 Tryd.results10 rfl (by simp only [argsL, Nat.reduceAdd, u32D, u8D, iD, bD, strD, u32_xor, u32_or, u32_and, u32_add, u32_not, u32_shr, u32_shl, u8_u32, u32_u8]; exact rfl) ?_; intro w0 A
    have hX := And.intro keyD_eq (And.intro txsD_eq (And.intro d1 (d2)))
    have hK := And.intro (lv) (And.intro (c1) (And.intro (c2) trivial)); (repeat refine DX_seq ?_); refine rgx [1, 2] ?_
    (repeat refine DX_seq ?_); refine rgx [1, 2, 16] ?_
    (repeat refine DX_seq ?_); refine iffx ?_
    (repeat refine DX_seq ?_); refine DX_skip ?_
    (repeat refine DX_seq ?_); refine rggx [1, 2, 29] ?_
    (repeat refine DX_seq ?_); refine iffx ?_
    (repeat refine DX_seq ?_); refine DX_skip ?_
    (repeat refine DX_seq ?_); refine rgx [1, 2, 5, 6] ?_
    (repeat refine DX_seq ?_); refine rggx [1, 2, 5, 6, 41] ?_
    (repeat refine DX_seq ?_); refine iftx ?_
    (repeat refine DX_seq ?_); refine DX_reg [4] ?_; intro w0 A S0 f0; (repeat (first | (refine gtx rfl rfl ?_) | (refine gx ?_) | ((with_reducible show DR _ _ _ (_ :: _) _); first | (refine cx _ (envG _ _ _ _ _ _) rfl rfl rfl rfl rfl ?_ (hc := by first | exact lv | exact c1 | exact c2)) | (refine npx _ rfl rfl rfl rfl (.inl rfl) (by kernel_rfl) ?_) | (refine sx ?_)))); refine DR_nil ?_; refine kl1 ?_
    (repeat refine DX_seq ?_); refine DX_ret ?_; refine retx ?_; (try dsimp only [outV, unlist])
    exact Fin_pure rfl
set_option maxHeartbeats 16000000 in
theorem keyRingsOk_w (lv : PC (envOf Tryd.prog) 26 [] (bD true)) (s : List UInt8) (m n : Nat) (ts : List (List UInt8)) (h1 : s.length ≠ 0) (h2 : s.length ≤ 64) (hm : m ≤ 7) (hn : n ≤ 2 ^ m) : PC (envOf Tryd.prog) 10 [keyD s (m : Int) (n : Int), txsD ts] (bD true) := by
  have hh : ∀ h, hashD h = .arr .u8 32 (fun i => ((h.getD i 0).toNat : Int)) := fun _ => rfl
  have hp := two_pow_big hm
  have mk1 := make_c s m n h1 h2 hm hn
  have c2 := refcheckOk_c s m n h1 h2 hm hn
  have c3 := refmake_c s m (n : Int) (by omega) hm
  have c4 : PC (envOf Tryd.prog) 39 [.ip (ringD s (m : Int) (n : Int) (leavesS s (2 ^ m)) (rootK s m))] (hashD (rootK s m)) := ringroot_c _ _ _ _ _
  have c5 : PC (envOf Tryd.prog) 40 [rrD s (m : Int) (n : Int) (leavesS s (2 ^ m))] (hashD (rootK s m)) := refringroot_c s m n hm
  have hS : ∀ (c : Nat) (t : List UInt8), c ≤ 2 ^ m → t.length ≤ 16384 → ∃ (c' : Nat) (sig : List UInt8) (e : Int), c' ≤ 2 ^ m ∧ PC (envOf Tryd.prog) 41 [rrD s (m : Int) (c : Int) (leavesS s (2 ^ m)), strD t] (ksD (rrD s (m : Int) (c' : Int) (leavesS s (2 ^ m))) sig e) ∧
      PM (envOf Tryd.prog) 42 (ringD s (m : Int) (c : Int) (leavesS s (2 ^ m)) (rootK s m)) [strD t] (ringD s (m : Int) (c' : Int) (leavesS s (2 ^ m)) (rootK s m)) (.tup (.cons (strD sig) (.cons (iD e) .nil))) := fun c t hc ht => by
    rcases Nat.lt_or_ge c (2 ^ m) with hlt | hge
    · exact ⟨c + 1, sigK s m c t, 0, hlt, refringSignOk_c s t m c h2 hm hlt (by omega), PM_ofH (ringSignOk_h s t m c _ h2 hm hlt (by omega)) rfl rfl⟩
    · obtain rfl : c = 2 ^ m := by omega
      exact ⟨2 ^ m, [], 10, Nat.le_refl _, refringSignOver_c s t m hm, PM_ofH (ringSignOver_h s t m _ hm) rfl rfl⟩
  unfold ksD at hS
  generalize rootK s m = rt at *
  generalize leavesS s (2 ^ m) = lf at *
  generalize 2 ^ m = N at *
  by_cases hT : 40 < ts.length
  · have d1 : decide ((40 : Int) < (ts.length : Int)) = true := decide_eq_true (by omega)
    by_cases hA : 4 < m
    · have d2 : decide ((4 : Int) < (m : Int)) = true := decide_eq_true (by omega)
      have d3 : decide ((m : Int) ≤ (7 : Int)) = true := decide_eq_true (by omega)
      have hX := and_true; refine PC_atX Tryd.func10 rfl Tryd.ntmps10 Tryd.results10 rfl (by simp only [argsL, Nat.reduceAdd, u32D, u8D, iD, bD, strD, u32_xor, u32_or, u32_and, u32_add, u32_not, u32_shr, u32_shl, u8_u32, u32_u8]; exact rfl) ?_; intro w0 A
      have hX := And.intro keyD_eq (And.intro txsD_eq (And.intro d1 (And.intro d2 (d3))))
      have hK := And.intro (lv) (And.intro (c2) (And.intro (c3) trivial)); (repeat refine DX_seq ?_); refine rgx [1, 2] ?_
      (repeat refine DX_seq ?_); refine rgx [1, 2, 16] ?_
      (repeat refine DX_seq ?_); refine iffx ?_
      (repeat refine DX_seq ?_); refine DX_skip ?_
      (repeat refine DX_seq ?_); refine rggx [1, 2, 29] ?_
      (repeat refine DX_seq ?_); refine iftx ?_
      (repeat refine DX_seq ?_); refine rgx [4] ?_
      (repeat refine DX_seq ?_); refine DX_ret ?_; refine retx ?_; (try dsimp only [outV, unlist])
      exact Fin_pure rfl
    · have d2 : decide ((4 : Int) < (m : Int)) = false := decide_eq_false (by omega)
      have hX := and_true; refine PC_atX Tryd.func10 rfl Tryd.ntmps10 Tryd.results10 rfl (by simp only [argsL, Nat.reduceAdd, u32D, u8D, iD, bD, strD, u32_xor, u32_or, u32_and, u32_add, u32_not, u32_shr, u32_shl, u8_u32, u32_u8]; exact rfl) ?_; intro w0 A
      have hX := And.intro keyD_eq (And.intro txsD_eq (And.intro d1 (d2)))
      have hK := And.intro (lv) (And.intro (c2) (And.intro (c3) trivial)); (repeat refine DX_seq ?_); refine rgx [1, 2] ?_
      (repeat refine DX_seq ?_); refine rgx [1, 2, 16] ?_
      (repeat refine DX_seq ?_); refine iffx ?_
      (repeat refine DX_seq ?_); refine DX_skip ?_
      (repeat refine DX_seq ?_); refine rggx [1, 2, 29] ?_
      (repeat refine DX_seq ?_); refine iftx ?_
      (repeat refine DX_seq ?_); refine rgx [4] ?_
      (repeat refine DX_seq ?_); refine DX_ret ?_; refine retx ?_; (try dsimp only [outV, unlist])
      exact Fin_pure rfl
  have d1 : decide ((40 : Int) < (ts.length : Int)) = false := decide_eq_false (by omega)
  by_cases hA : 4 < m
  · have d2 : decide ((4 : Int) < (m : Int)) = true := decide_eq_true (by omega)
    have d3 : decide ((m : Int) ≤ (7 : Int)) = true := decide_eq_true (by omega)
    have hX := and_true; refine PC_atX Tryd.func10 rfl Tryd.ntmps10 Tryd.results10 rfl (by simp only [argsL, Nat.reduceAdd, u32D, u8D, iD, bD, strD, u32_xor, u32_or, u32_and, u32_add, u32_not, u32_shr, u32_shl, u8_u32, u32_u8]; exact rfl) ?_; intro w0 A
    have hX := And.intro keyD_eq (And.intro txsD_eq (And.intro d1 (And.intro d2 (d3))))
    have hK := And.intro (lv) (And.intro (c2) (And.intro (c3) trivial)); (repeat refine DX_seq ?_); refine rgx [1, 2] ?_
    (repeat refine DX_seq ?_); refine rgx [1, 2, 16] ?_
    (repeat refine DX_seq ?_); refine iffx ?_
    (repeat refine DX_seq ?_); refine DX_skip ?_
    (repeat refine DX_seq ?_); refine rggx [1, 2, 29] ?_
    (repeat refine DX_seq ?_); refine iftx ?_
    (repeat refine DX_seq ?_); refine rgx [4] ?_
    (repeat refine DX_seq ?_); refine DX_ret ?_; refine retx ?_; (try dsimp only [outV, unlist])
    exact Fin_pure rfl
  have d2 : decide ((4 : Int) < (m : Int)) = false := decide_eq_false (by omega)
  have hX := and_true; refine PC_atX Tryd.func10 rfl Tryd.ntmps10 Tryd.results10 rfl (by simp only [argsL, Nat.reduceAdd, u32D, u8D, iD, bD, strD, u32_xor, u32_or, u32_and, u32_add, u32_not, u32_shr, u32_shl, u8_u32, u32_u8]; exact rfl) ?_; intro w0 A
  have hX := And.intro keyD_eq (And.intro txsD_eq (And.intro d1 (d2)))
  have hK := And.intro (lv) (And.intro (c2) (And.intro (c3) trivial)); (repeat refine DX_seq ?_); refine rgx [1, 2] ?_
  (repeat refine DX_seq ?_); refine rgx [1, 2, 16] ?_
  (repeat refine DX_seq ?_); refine iffx ?_
  (repeat refine DX_seq ?_); refine DX_skip ?_
  (repeat refine DX_seq ?_); refine rggx [1, 2, 29] ?_
  (repeat refine DX_seq ?_); refine iffx ?_
  (repeat refine DX_seq ?_); refine DX_skip ?_
  (repeat refine DX_seq ?_); refine DX_reg [1, 2, 5, 6] ?_; intro w0 A S0 f0; (repeat ((with_reducible show DR _ _ _ (_ :: _) _); first | (refine cx _ (envG _ _ _ _ _ _) rfl rfl rfl rfl rfl ?_ (hc := by first | exact lv | exact c2 | exact c3)) | (refine ex rfl (docalln (envG _ _ _ _ _ _) rfl rfl rfl (hc := by first | exact mk1)) ?_) | (refine sx ?_))); refine DR_nil ?_; refine kl1 ?_
  dsimp only [suD, ringD, hashD, hsD, iD, keyD, strD]
  (repeat refine DX_seq ?_); refine DX_reg [1, 2, 5, 6, 41] ?_; intro w0 A S0 f0; (repeat (first | (refine gtx rfl rfl ?_) | (refine gx ?_) | ((with_reducible show DR _ _ _ (_ :: _) _); first | (refine cx _ (envG _ _ _ _ _ _) rfl rfl rfl rfl rfl ?_ (hc := by first | exact lv | exact c2 | exact c3)) | (refine npx _ rfl rfl rfl rfl (.inl rfl) (by kernel_rfl) ?_) | (refine sx ?_)))); refine DR_nil ?_; refine kl1 ?_
  (repeat refine DX_seq ?_); refine iffx ?_
  (repeat refine DX_seq ?_); refine DX_skip ?_
  have hX := And.intro keyD_eq (And.intro txsD_eq (And.intro rrD_eq (And.intro ringD_eq (And.intro hh (dec_l)))))
  (repeat refine DX_seq ?_); refine rgx [1, 5, 6, 7] ?_
  (repeat refine DX_seq ?_); refine DX_drwq [1, 5, 7, 63] (by kernel_rfl) ?_; intro w0 A S0 f0; (repeat (first | (refine gtxq rfl rfl ?_) | (refine gxq ?_) | ((with_reducible show DRq _ _ _ (_ :: _) _); first | (refine cxq _ (envG _ _ _ _ _ _) rfl rfl rfl rfl rfl ?_ (hc := by first | exact c5)) | (refine cpxq _ (envG _ _ _ _ _ _) rfl rfl rfl rfl rfl ?_ (hc := by first | exact c4)) | (refine sxq ?_)))); refine DRq_nil ?_; refine kl1 ?_
  (repeat refine DX_seq ?_); refine iffx ?_
  (repeat refine DX_seq ?_); refine DX_skip ?_
  have hK := And.intro (c5) trivial; (repeat refine DX_seq ?_); refine rgx [5, 7, 64, 65, 66] ?_
  (repeat refine DX_seq ?_); refine DX_block ?_
  (repeat refine DX_seq ?_); refine DX_loop (fun j _ st => ∃ i c, i + j = ts.length ∧ c ≤ N ∧ st = mk [(5, .ptr 1 0), (7, .ptr 2 0), (64, txsD ts), (65, iD (ts.length : Int)), (66, iD (i : Int))] [some (.one (keyD s (m : Int) (n : Int))), some (.one (ringD s (m : Int) (c : Int) lf rt)), some (.one (rrD s (m : Int) (c : Int) lf))]) ts.length ⟨_, WeakX.refl _, 0, n, by omega, hn, ?_⟩ ?_
  · simp [iD, keyD_eq, hh, txsD_eq, rrD_eq, ringD_eq]
  rintro j _ _ ⟨i, c, hi, hc0, rfl⟩
  have hX := And.intro keyD_eq (And.intro txsD_eq (And.intro rrD_eq (And.intro ringD_eq (hh))))
  (repeat refine DX_seq ?_); refine rgx [5, 7, 64, 65, 66, 67] ?_
  (repeat refine DX_seq ?_); refine ifx ?_ ?_
  · intro hc; (try simp only [hcs, ne_eq] at hc)
    have hin : i < ts.length := by omega
    generalize hxx : ts.getD i [] = t at *
    (repeat refine DX_seq ?_); refine DX_skip ?_
    (repeat refine DX_seq ?_); refine DX_block ?_
    have hX := And.intro keyD_eq (And.intro hh (And.intro txsD_eq (And.intro txD_eq (And.intro hxx (And.intro rrD_eq (ringD_eq))))))
    (repeat refine DX_seq ?_); refine rgx [5, 7, 9, 64, 65, 66] ?_
    (repeat refine DX_seq ?_); refine rgx [5, 7, 9, 64, 65, 66, 72] ?_
    (repeat refine DX_seq ?_); refine ifx ?_ ?_
    · intro hc2; (try simp only [hcs, ne_eq] at hc2)
      (repeat refine DX_seq ?_); refine rgx [4] ?_
      (repeat refine DX_seq ?_); refine DX_ret ?_; refine retx ?_; (try dsimp only [outV, unlist])
      exact Fin_pure rfl
    · intro hc2; (try simp only [hcs, ne_eq] at hc2)
      (repeat refine DX_seq ?_); refine DX_skip ?_
      have htl : t.length ≤ 16384 := by omega
      obtain ⟨c', sig, e, hc', k1, k2⟩ := hS c t hc0 htl
      have k3 := ringkey_c s (m : Int) (c' : Int) lf rt
      have hX := And.intro keyD_eq (And.intro hh (And.intro txsD_eq (And.intro dec_i (And.intro dec_b (And.intro rrD_eq (ringD_eq))))))
      have hK := And.intro (k1) trivial; (repeat refine DX_seq ?_); refine rgx [5, 7, 9, 10, 11, 12, 64, 65, 66] ?_
      (repeat refine DX_seq ?_); refine DX_reg [5, 7, 10, 11, 12, 13, 14, 64, 65, 66] ?_; intro w0 A S0 f0; (repeat ((with_reducible show DR _ _ _ (_ :: _) _); first | (refine cx _ (envG _ _ _ _ _ _) rfl rfl rfl rfl rfl ?_ (hc := by first | exact k1)) | (refine ex rfl (DO_callM1 (envG _ _ _ _ _ _) rfl rfl rfl (hc := by first | exact k2)) ?_) | (refine sx ?_))); refine DR_nil ?_; refine kl1 ?_
      (repeat refine DX_seq ?_); refine DX_drwq [5, 7, 10, 64, 65, 66, 100] (by kernel_rfl) ?_; intro w0 A S0 f0; (repeat (first | (refine gtxq rfl rfl ?_) | (refine gxq ?_) | ((with_reducible show DRq _ _ _ (_ :: _) _); first | (refine cxq _ (envG _ _ _ _ _ _) rfl rfl rfl rfl rfl ?_ (hc := by first | exact k1)) | (refine cpxq _ (envG _ _ _ _ _ _) rfl rfl rfl rfl rfl ?_ (hc := by first | exact k3)) | (refine eqsxq 3 _ rfl rfl rfl rfl (.inr rfl) (by kernel_rfl) (by kernel_rfl) rfl ?_) | (refine sxq ?_)))); refine DRq_nil ?_; refine kl1 ?_
      (repeat refine DX_seq ?_); refine iffx ?_
      (repeat refine DX_seq ?_); refine DX_skip ?_
      (repeat refine DX_seq ?_); refine rgx [5, 7, 64, 65, 66] ?_
      (repeat refine DX_seq ?_); refine rgx [5, 7, 64, 65, 66] ?_
      refine ⟨_, j - 1, WeakX.take 3 rfl rfl rfl, by omega, i + 1, c', by omega, hc', ?_⟩
      simp [iD, keyD_eq, hh, txsD_eq, rrD_eq, ringD_eq]
  · intro hc; (try simp only [hcs, ne_eq] at hc)
    (repeat refine DX_seq ?_); refine DX_exit ?_
    (repeat refine DX_seq ?_); refine rgx [4] ?_
    (repeat refine DX_seq ?_); refine DX_ret ?_; refine retx ?_; (try dsimp only [outV, unlist])
    exact Fin_pure rfl
theorem keyRings_c (s : List UInt8) (h n : Int) (ts : List (List UInt8)) : PC (envOf Tryd.prog) 10 [keyD s h n, txsD ts] (bD true) := by
  by_cases hb : badK s h n
  · exact keyRingsNo_w lives05_c s h n ts hb
  · obtain ⟨m, k, rfl, rfl, h1, h2, hm, hk⟩ := goodK hb
    exact keyRingsOk_w lives05_c s m k ts h1 h2 hm hk
end Go.Proofs.YtedioenakmgdiaaDoor
