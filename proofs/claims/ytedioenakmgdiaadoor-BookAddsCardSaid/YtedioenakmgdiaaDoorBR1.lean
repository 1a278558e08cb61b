/- Steps of XHn and XHo, their computing left to auto-parameters. It speaks of no program of ours. Books are copied, and a grant is put into one. The order of grants, and where one belongs. (Written by gen_bd.py.) Where a grant comes to stand in a book: plain laws. It speaks of no program. A grant is added to a book. Functions that carry pointers to own blocks, handed on; calls of functions that carry values. It speaks of no program of ours. -/
import Derived.Test.YtedioenakmgdiaaDoorBR0
import Derived.Test.YtedioenakmgdiaaDoorBPD
import Derived.Test.YtedioenakmgdiaaDoorBPL
namespace Go.Proofs.YtedioenakmgdiaaDoor
set_option linter.unusedSimpArgs false
set_option linter.unusedVariables false
set_option maxRecDepth 10000
open Go.RowKit
theorem docopyR1 {C : Cx} {o : Oper} {st : St} {x y : Operand} {t u el l n1 n' sz b1 b2 : Nat} {z1 : D} {e : TE} {L : List D} {P0 : Prop} (s p m : Nat) (es R : List D) (hR : L.take p ++ es.take m ++ L.drop (p + m) = R) (hpure : ∀ d ∈ es, pureD d = true ∧ nc d = sz)
    (ho : o.op = .call { callee := .builtin .copy, args := #[x, y], argTypes := #[t, u] }) (hd : dstB C o = true) (hT : C.T t = some ⟨.slice el, b1, b2, z1⟩) (hE : C.T el = some e) (hsz : e.sz = sz)
    (hs : st.s s = .own l n' el sz := by simp only [St.put, kilH, kil, kilB, List.map, List.set, List.length, List.nil_append, List.cons_append, List.append_nil, Option.map, storeF, setD, srcD, byteD, byteD, implies_true, setD, bslF, buildF, buildL, List.zip_cons_cons, List.zip_nil_right, List.zip_nil_left, pureD, rng0, rng1, rng2, rng3, rng4, rng5, rng6, rng7, rng8, List.getD_cons_zero, List.getD_cons_succ, Nat.reduceLeDiff, decide_true, decide_false, List.all_cons, List.all_nil, dqF, nilF, callQ, argsD, Op.operands, Call.operands, evD, cD, gip, upd, look, List.map, List.map_cons, List.map_nil, binF, binI, shI, binS, unF, wD, kLo, kHi, kMod, kBits, convF, loadF, fieldF, faddrF, indexF, iaddrF, lenF, lenD, sliceF, sliceF3, minF, sliceD, cutL, bndF, sub, nc, aggT, aggB, scB, tnth, elems, L_B, L_mk, List.getElem?_cons_zero, List.getElem?_cons_succ, reduceIte, reduceCtorEq, Option.isSome, List.toList_toArray, Nat.reduceAdd, Nat.reduceSub, Nat.reduceMul, Nat.reduceEqDiff, Nat.reduceLT, Nat.reduceBEq, mkF, mkG, Bool.and_true, Bool.true_and, Bool.and_false, Bool.false_and, beq_self_eq_true, mkC, Int.reduceToNat, Int.toNat_natCast, Int.reduceAdd, Int.reduceSub, Int.reduceMul, Nat.zero_add, Nat.add_zero, Nat.mul_one, and_true, true_and, Option.getD_some, Option.getD_none, ne_eq, not_true_eq_false, not_false_eq_true, decide_not, Bool.not_true, Bool.not_false, Int.reduceLT, Int.reduceLE, Int.reduceEq, Int.reduceNe, Int.reduceGT, Int.reduceGE, gt_iff_lt, ge_iff_le, Nat.reduceLT, Nat.reduceLeDiff, u32D, u8D, iD, bD, strD, u32_xor, u32_or, u32_and, u32_add, u32_not, u32_shr, u32_shl, u8_u32, u32_u8, hX, envOf, tyT, gtab] <;> exact rfl) (hx : evD C st x = .osl l (p * sz) n1 := by simp only [St.put, kilH, kil, kilB, List.map, List.set, List.length, List.nil_append, List.cons_append, List.append_nil, Option.map, storeF, setD, srcD, byteD, byteD, implies_true, setD, bslF, buildF, buildL, List.zip_cons_cons, List.zip_nil_right, List.zip_nil_left, pureD, rng0, rng1, rng2, rng3, rng4, rng5, rng6, rng7, rng8, List.getD_cons_zero, List.getD_cons_succ, Nat.reduceLeDiff, decide_true, decide_false, List.all_cons, List.all_nil, dqF, nilF, callQ, argsD, Op.operands, Call.operands, evD, cD, gip, upd, look, List.map, List.map_cons, List.map_nil, binF, binI, shI, binS, unF, wD, kLo, kHi, kMod, kBits, convF, loadF, fieldF, faddrF, indexF, iaddrF, lenF, lenD, sliceF, sliceF3, minF, sliceD, cutL, bndF, sub, nc, aggT, aggB, scB, tnth, elems, L_B, L_mk, List.getElem?_cons_zero, List.getElem?_cons_succ, reduceIte, reduceCtorEq, Option.isSome, List.toList_toArray, Nat.reduceAdd, Nat.reduceSub, Nat.reduceMul, Nat.reduceEqDiff, Nat.reduceLT, Nat.reduceBEq, mkF, mkG, Bool.and_true, Bool.true_and, Bool.and_false, Bool.false_and, beq_self_eq_true, mkC, Int.reduceToNat, Int.toNat_natCast, Int.reduceAdd, Int.reduceSub, Int.reduceMul, Nat.zero_add, Nat.add_zero, Nat.mul_one, and_true, true_and, Option.getD_some, Option.getD_none, ne_eq, not_true_eq_false, not_false_eq_true, decide_not, Bool.not_true, Bool.not_false, Int.reduceLT, Int.reduceLE, Int.reduceEq, Int.reduceNe, Int.reduceGT, Int.reduceGE, gt_iff_lt, ge_iff_le, Nat.reduceLT, Nat.reduceLeDiff, u32D, u8D, iD, bD, strD, u32_xor, u32_or, u32_and, u32_add, u32_not, u32_shr, u32_shl, u8_u32, u32_u8, hX, envOf, tyT, gtab] <;> exact rfl) (hl : st.h[l]? = some (some (.row L el sz)) := by exact rfl)
    (hy : srcD st.h (evD C st y) = some (P0, es) := by simp only [St.put, kilH, kil, kilB, List.map, List.set, List.length, List.nil_append, List.cons_append, List.append_nil, Option.map, storeF, setD, srcD, byteD, byteD, implies_true, setD, bslF, buildF, buildL, List.zip_cons_cons, List.zip_nil_right, List.zip_nil_left, pureD, rng0, rng1, rng2, rng3, rng4, rng5, rng6, rng7, rng8, List.getD_cons_zero, List.getD_cons_succ, Nat.reduceLeDiff, decide_true, decide_false, List.all_cons, List.all_nil, dqF, nilF, callQ, argsD, Op.operands, Call.operands, evD, cD, gip, upd, look, List.map, List.map_cons, List.map_nil, binF, binI, shI, binS, unF, wD, kLo, kHi, kMod, kBits, convF, loadF, fieldF, faddrF, indexF, iaddrF, lenF, lenD, sliceF, sliceF3, minF, sliceD, cutL, bndF, sub, nc, aggT, aggB, scB, tnth, elems, L_B, L_mk, List.getElem?_cons_zero, List.getElem?_cons_succ, reduceIte, reduceCtorEq, Option.isSome, List.toList_toArray, Nat.reduceAdd, Nat.reduceSub, Nat.reduceMul, Nat.reduceEqDiff, Nat.reduceLT, Nat.reduceBEq, mkF, mkG, Bool.and_true, Bool.true_and, Bool.and_false, Bool.false_and, beq_self_eq_true, mkC, Int.reduceToNat, Int.toNat_natCast, Int.reduceAdd, Int.reduceSub, Int.reduceMul, Nat.zero_add, Nat.add_zero, Nat.mul_one, and_true, true_and, Option.getD_some, Option.getD_none, ne_eq, not_true_eq_false, not_false_eq_true, decide_not, Bool.not_true, Bool.not_false, Int.reduceLT, Int.reduceLE, Int.reduceEq, Int.reduceNe, Int.reduceGT, Int.reduceGE, gt_iff_lt, ge_iff_le, Nat.reduceLT, Nat.reduceLeDiff, u32D, u8D, iD, bD, strD, u32_xor, u32_or, u32_and, u32_add, u32_not, u32_shr, u32_shl, u8_u32, u32_u8, hX, envOf, tyT, gtab] <;> exact rfl) (hP : P0 := by first | ((repeat' apply And.intro) <;> first | exact True.intro | rfl | omega) | (repeat' (with_reducible apply And.intro)) <;> first | (with_reducible exact True.intro) | omega | (simp only [L_B, L_mk, bndF, Option.getD_some, Option.getD_none, List.length_cons, List.length_nil, List.length_append, List.length_map, List.length_range, List.length_drop, List.length_take, List.length_replicate, List.length_set, List.length_reverse, hX] <;> omega) | (intro d hd; simp only [List.mem_cons, List.not_mem_nil, or_false] at hd; (first | (subst hd; first | trivial | exact ⟨rfl, rfl⟩) | (rcases hd with rfl | rfl <;> first | trivial | exact ⟨rfl, rfl⟩) | (rcases hd with rfl | rfl | rfl <;> first | trivial | exact ⟨rfl, rfl⟩) | (rcases hd with rfl | rfl | rfl | rfl <;> first | trivial | exact ⟨rfl, rfl⟩))) | (intro d hd; simp only [List.mem_map, List.mem_cons, List.not_mem_nil, or_false] at hd; obtain ⟨i, _, rfl⟩ := hd; first | trivial | exact ⟨rfl, rfl⟩) | (intro d hd; simp only [List.mem_append, List.mem_map, List.mem_cons, List.not_mem_nil, or_false] at hd; rcases hd with ⟨i, _, rfl⟩ | rfl <;> first | trivial | exact ⟨rfl, rfl⟩) | (intro i hi; rfl) | rfl) (hp : p ≤ L.length := by first | omega | (simp only [L_B, L_mk, bndF, Option.getD_some, Option.getD_none, List.length_cons, List.length_nil, List.length_append, List.length_map, List.length_range, List.length_drop, List.length_take, List.length_replicate, List.length_set, List.length_reverse, hX] <;> omega)) (hm : min es.length n1 = m := by first | omega | (simp only [L_B, L_mk, bndF, Option.getD_some, Option.getD_none, List.length_cons, List.length_nil, List.length_append, List.length_map, List.length_range, List.length_drop, List.length_take, List.length_replicate, List.length_set, List.length_reverse, hX] <;> omega)) (hm0 : 0 < m := by omega) (hn : p + m ≤ n' := by omega) :
    DO C o st (St.put { st with h := st.h.set l (some (.row R el sz)) } o.dst (.v (.int .i64 (m : Int)))) := by
  subst hR
  exact DO_copyR s hs ho hd hT hE hsz hx hl hp hy hP hpure hm hm0 hn
theorem docopyS1 {C : Cx} {o : Oper} {st : St} {x y : Operand} {t u el l n1 n2 n' sz b1 b2 : Nat} {z1 : D} {e : TE} {L : List D} (s p q m : Nat) (R : List D) (hR : L.take p ++ (L.drop q).take m ++ L.drop (p + m) = R)
    (ho : o.op = .call { callee := .builtin .copy, args := #[x, y], argTypes := #[t, u] }) (hd : dstB C o = true) (hT : C.T t = some ⟨.slice el, b1, b2, z1⟩) (hE : C.T el = some e) (hsz : e.sz = sz)
    (hs : st.s s = .own l n' el sz := by simp only [St.put, kilH, kil, kilB, List.map, List.set, List.length, List.nil_append, List.cons_append, List.append_nil, Option.map, storeF, setD, srcD, byteD, byteD, implies_true, setD, bslF, buildF, buildL, List.zip_cons_cons, List.zip_nil_right, List.zip_nil_left, pureD, rng0, rng1, rng2, rng3, rng4, rng5, rng6, rng7, rng8, List.getD_cons_zero, List.getD_cons_succ, Nat.reduceLeDiff, decide_true, decide_false, List.all_cons, List.all_nil, dqF, nilF, callQ, argsD, Op.operands, Call.operands, evD, cD, gip, upd, look, List.map, List.map_cons, List.map_nil, binF, binI, shI, binS, unF, wD, kLo, kHi, kMod, kBits, convF, loadF, fieldF, faddrF, indexF, iaddrF, lenF, lenD, sliceF, sliceF3, minF, sliceD, cutL, bndF, sub, nc, aggT, aggB, scB, tnth, elems, L_B, L_mk, List.getElem?_cons_zero, List.getElem?_cons_succ, reduceIte, reduceCtorEq, Option.isSome, List.toList_toArray, Nat.reduceAdd, Nat.reduceSub, Nat.reduceMul, Nat.reduceEqDiff, Nat.reduceLT, Nat.reduceBEq, mkF, mkG, Bool.and_true, Bool.true_and, Bool.and_false, Bool.false_and, beq_self_eq_true, mkC, Int.reduceToNat, Int.toNat_natCast, Int.reduceAdd, Int.reduceSub, Int.reduceMul, Nat.zero_add, Nat.add_zero, Nat.mul_one, and_true, true_and, Option.getD_some, Option.getD_none, ne_eq, not_true_eq_false, not_false_eq_true, decide_not, Bool.not_true, Bool.not_false, Int.reduceLT, Int.reduceLE, Int.reduceEq, Int.reduceNe, Int.reduceGT, Int.reduceGE, gt_iff_lt, ge_iff_le, Nat.reduceLT, Nat.reduceLeDiff, u32D, u8D, iD, bD, strD, u32_xor, u32_or, u32_and, u32_add, u32_not, u32_shr, u32_shl, u8_u32, u32_u8, hX, envOf, tyT, gtab] <;> exact rfl) (hx : evD C st x = .osl l (p * sz) n1 := by simp only [St.put, kilH, kil, kilB, List.map, List.set, List.length, List.nil_append, List.cons_append, List.append_nil, Option.map, storeF, setD, srcD, byteD, byteD, implies_true, setD, bslF, buildF, buildL, List.zip_cons_cons, List.zip_nil_right, List.zip_nil_left, pureD, rng0, rng1, rng2, rng3, rng4, rng5, rng6, rng7, rng8, List.getD_cons_zero, List.getD_cons_succ, Nat.reduceLeDiff, decide_true, decide_false, List.all_cons, List.all_nil, dqF, nilF, callQ, argsD, Op.operands, Call.operands, evD, cD, gip, upd, look, List.map, List.map_cons, List.map_nil, binF, binI, shI, binS, unF, wD, kLo, kHi, kMod, kBits, convF, loadF, fieldF, faddrF, indexF, iaddrF, lenF, lenD, sliceF, sliceF3, minF, sliceD, cutL, bndF, sub, nc, aggT, aggB, scB, tnth, elems, L_B, L_mk, List.getElem?_cons_zero, List.getElem?_cons_succ, reduceIte, reduceCtorEq, Option.isSome, List.toList_toArray, Nat.reduceAdd, Nat.reduceSub, Nat.reduceMul, Nat.reduceEqDiff, Nat.reduceLT, Nat.reduceBEq, mkF, mkG, Bool.and_true, Bool.true_and, Bool.and_false, Bool.false_and, beq_self_eq_true, mkC, Int.reduceToNat, Int.toNat_natCast, Int.reduceAdd, Int.reduceSub, Int.reduceMul, Nat.zero_add, Nat.add_zero, Nat.mul_one, and_true, true_and, Option.getD_some, Option.getD_none, ne_eq, not_true_eq_false, not_false_eq_true, decide_not, Bool.not_true, Bool.not_false, Int.reduceLT, Int.reduceLE, Int.reduceEq, Int.reduceNe, Int.reduceGT, Int.reduceGE, gt_iff_lt, ge_iff_le, Nat.reduceLT, Nat.reduceLeDiff, u32D, u8D, iD, bD, strD, u32_xor, u32_or, u32_and, u32_add, u32_not, u32_shr, u32_shl, u8_u32, u32_u8, hX, envOf, tyT, gtab] <;> exact rfl) (hl : st.h[l]? = some (some (.row L el sz)) := by exact rfl)
    (hy : evD C st y = .osl l (q * sz) n2 := by simp only [St.put, kilH, kil, kilB, List.map, List.set, List.length, List.nil_append, List.cons_append, List.append_nil, Option.map, storeF, setD, srcD, byteD, byteD, implies_true, setD, bslF, buildF, buildL, List.zip_cons_cons, List.zip_nil_right, List.zip_nil_left, pureD, rng0, rng1, rng2, rng3, rng4, rng5, rng6, rng7, rng8, List.getD_cons_zero, List.getD_cons_succ, Nat.reduceLeDiff, decide_true, decide_false, List.all_cons, List.all_nil, dqF, nilF, callQ, argsD, Op.operands, Call.operands, evD, cD, gip, upd, look, List.map, List.map_cons, List.map_nil, binF, binI, shI, binS, unF, wD, kLo, kHi, kMod, kBits, convF, loadF, fieldF, faddrF, indexF, iaddrF, lenF, lenD, sliceF, sliceF3, minF, sliceD, cutL, bndF, sub, nc, aggT, aggB, scB, tnth, elems, L_B, L_mk, List.getElem?_cons_zero, List.getElem?_cons_succ, reduceIte, reduceCtorEq, Option.isSome, List.toList_toArray, Nat.reduceAdd, Nat.reduceSub, Nat.reduceMul, Nat.reduceEqDiff, Nat.reduceLT, Nat.reduceBEq, mkF, mkG, Bool.and_true, Bool.true_and, Bool.and_false, Bool.false_and, beq_self_eq_true, mkC, Int.reduceToNat, Int.toNat_natCast, Int.reduceAdd, Int.reduceSub, Int.reduceMul, Nat.zero_add, Nat.add_zero, Nat.mul_one, and_true, true_and, Option.getD_some, Option.getD_none, ne_eq, not_true_eq_false, not_false_eq_true, decide_not, Bool.not_true, Bool.not_false, Int.reduceLT, Int.reduceLE, Int.reduceEq, Int.reduceNe, Int.reduceGT, Int.reduceGE, gt_iff_lt, ge_iff_le, Nat.reduceLT, Nat.reduceLeDiff, u32D, u8D, iD, bD, strD, u32_xor, u32_or, u32_and, u32_add, u32_not, u32_shr, u32_shl, u8_u32, u32_u8, hX, envOf, tyT, gtab] <;> exact rfl) (hp : p ≤ L.length := by first | omega | (simp only [L_B, L_mk, bndF, Option.getD_some, Option.getD_none, List.length_cons, List.length_nil, List.length_append, List.length_map, List.length_range, List.length_drop, List.length_take, List.length_replicate, List.length_set, List.length_reverse, hX] <;> omega)) (hq : q + m ≤ L.length := by first | omega | (simp only [L_B, L_mk, bndF, Option.getD_some, Option.getD_none, List.length_cons, List.length_nil, List.length_append, List.length_map, List.length_range, List.length_drop, List.length_take, List.length_replicate, List.length_set, List.length_reverse, hX] <;> omega)) (hm : min n2 n1 = m := by first | omega | (simp only [L_B, L_mk, bndF, Option.getD_some, Option.getD_none, List.length_cons, List.length_nil, List.length_append, List.length_map, List.length_range, List.length_drop, List.length_take, List.length_replicate, List.length_set, List.length_reverse, hX] <;> omega)) (hm0 : 0 < m := by omega) (hn : p + m ≤ n' := by omega) :
    DO C o st (St.put { st with h := st.h.set l (some (.row R el sz)) } o.dst (.v (.int .i64 (m : Int)))) := by
  subst hR
  exact DO_copyS s hs ho hd hT hE hsz hx hl hp hy hq hm hm0 hn
theorem doappz1 {C : Cx} {o : Oper} {st : St} {s x : Operand} {t u el sz l i c b1 b2 : Nat} {z1 : D} {e eu : TE} {kq : IntKind} {L : List D} (k N : Nat) (hN : i + k = N) (hcap : CapC C l el (c * sz)) (hg : c < i + k) (ho : o.op = .call { callee := .builtin .append, args := #[s, x], argTypes := #[t, u] }) (hd : dstB C o = true) (hT : C.T t = some ⟨.slice el, b1, b2, z1⟩) (hE : C.T el = some e)
    (hU : C.T u = some eu) (huk : (match eu.d with | .int _ => true | _ => false) = true) (hsz : e.sz = sz) (hs0 : 0 < sz) (hby : 0 < e.bytes)
    (hs : evD C st s = .own l i el sz := by simp only [St.put, kilH, kil, kilB, List.map, List.set, List.length, List.nil_append, List.cons_append, List.append_nil, Option.map, storeF, setD, srcD, byteD, byteD, implies_true, setD, bslF, buildF, buildL, List.zip_cons_cons, List.zip_nil_right, List.zip_nil_left, pureD, rng0, rng1, rng2, rng3, rng4, rng5, rng6, rng7, rng8, List.getD_cons_zero, List.getD_cons_succ, Nat.reduceLeDiff, decide_true, decide_false, List.all_cons, List.all_nil, dqF, nilF, callQ, argsD, Op.operands, Call.operands, evD, cD, gip, upd, look, List.map, List.map_cons, List.map_nil, binF, binI, shI, binS, unF, wD, kLo, kHi, kMod, kBits, convF, loadF, fieldF, faddrF, indexF, iaddrF, lenF, lenD, sliceF, sliceF3, minF, sliceD, cutL, bndF, sub, nc, aggT, aggB, scB, tnth, elems, L_B, L_mk, List.getElem?_cons_zero, List.getElem?_cons_succ, reduceIte, reduceCtorEq, Option.isSome, List.toList_toArray, Nat.reduceAdd, Nat.reduceSub, Nat.reduceMul, Nat.reduceEqDiff, Nat.reduceLT, Nat.reduceBEq, mkF, mkG, Bool.and_true, Bool.true_and, Bool.and_false, Bool.false_and, beq_self_eq_true, mkC, Int.reduceToNat, Int.toNat_natCast, Int.reduceAdd, Int.reduceSub, Int.reduceMul, Nat.zero_add, Nat.add_zero, Nat.mul_one, and_true, true_and, Option.getD_some, Option.getD_none, ne_eq, not_true_eq_false, not_false_eq_true, decide_not, Bool.not_true, Bool.not_false, Int.reduceLT, Int.reduceLE, Int.reduceEq, Int.reduceNe, Int.reduceGT, Int.reduceGE, gt_iff_lt, ge_iff_le, Nat.reduceLT, Nat.reduceLeDiff, u32D, u8D, iD, bD, strD, u32_xor, u32_or, u32_and, u32_add, u32_not, u32_shr, u32_shl, u8_u32, u32_u8, hX, envOf, tyT, gtab] <;> exact rfl) (hx : evD C st x = .v (.int kq (k : Int)) := by simp only [St.put, kilH, kil, kilB, List.map, List.set, List.length, List.nil_append, List.cons_append, List.append_nil, Option.map, storeF, setD, srcD, byteD, byteD, implies_true, setD, bslF, buildF, buildL, List.zip_cons_cons, List.zip_nil_right, List.zip_nil_left, pureD, rng0, rng1, rng2, rng3, rng4, rng5, rng6, rng7, rng8, List.getD_cons_zero, List.getD_cons_succ, Nat.reduceLeDiff, decide_true, decide_false, List.all_cons, List.all_nil, dqF, nilF, callQ, argsD, Op.operands, Call.operands, evD, cD, gip, upd, look, List.map, List.map_cons, List.map_nil, binF, binI, shI, binS, unF, wD, kLo, kHi, kMod, kBits, convF, loadF, fieldF, faddrF, indexF, iaddrF, lenF, lenD, sliceF, sliceF3, minF, sliceD, cutL, bndF, sub, nc, aggT, aggB, scB, tnth, elems, L_B, L_mk, List.getElem?_cons_zero, List.getElem?_cons_succ, reduceIte, reduceCtorEq, Option.isSome, List.toList_toArray, Nat.reduceAdd, Nat.reduceSub, Nat.reduceMul, Nat.reduceEqDiff, Nat.reduceLT, Nat.reduceBEq, mkF, mkG, Bool.and_true, Bool.true_and, Bool.and_false, Bool.false_and, beq_self_eq_true, mkC, Int.reduceToNat, Int.toNat_natCast, Int.reduceAdd, Int.reduceSub, Int.reduceMul, Nat.zero_add, Nat.add_zero, Nat.mul_one, and_true, true_and, Option.getD_some, Option.getD_none, ne_eq, not_true_eq_false, not_false_eq_true, decide_not, Bool.not_true, Bool.not_false, Int.reduceLT, Int.reduceLE, Int.reduceEq, Int.reduceNe, Int.reduceGT, Int.reduceGE, gt_iff_lt, ge_iff_le, Nat.reduceLT, Nat.reduceLeDiff, u32D, u8D, iD, bD, strD, u32_xor, u32_or, u32_and, u32_add, u32_not, u32_shr, u32_shl, u8_u32, u32_u8, hX, envOf, tyT, gtab] <;> exact rfl) (hl : st.h[l]? = some (some (.row L el sz)) := by exact rfl)
    (hi : i ≤ L.length := by first | omega | (simp only [L_B, L_mk, bndF, Option.getD_some, Option.getD_none, List.length_cons, List.length_nil, List.length_append, List.length_map, List.length_range, List.length_drop, List.length_take, List.length_replicate, List.length_set, List.length_reverse, hX] <;> omega)) (h0 : 0 < k := by omega) (hb : (i + k) * e.bytes ≤ 140737488355328 := by first | omega | (simp only [L_B, L_mk, bndF, Option.getD_some, Option.getD_none, List.length_cons, List.length_nil, List.length_append, List.length_map, List.length_range, List.length_drop, List.length_take, List.length_replicate, List.length_set, List.length_reverse, hX] <;> omega)) :
    DO C o st (St.put ⟨st.s, st.h ++ [some (.row (L.take i ++ List.replicate k e.z) el sz)]⟩ o.dst (.own st.h.length N el sz)) := by
  subst hN
  exact DO_appz ho hd hT hE hU huk hsz hs0 hby hcap hs hx hl hi h0 hg hb
section
variable {C : Cx} {ops : Array Oper} {K : St → Prop} {o : Oper} {rest : List Oper} {s : Nat → D} {h : List (Option Bk)}
theorem capx {ty l n T sz c el b1 b2 : Nat} {z1 : D} {x : Operand} (hc : CapC C l T (c * sz)) (t : Nat) (hg : o.guard = none) (hd : o.dst = some t) (ht' : Nat.blt t C.n = true) (ho : o.op = .call { callee := .builtin .cap, args := #[x], argTypes := #[ty] }) (hT : C.T ty = some ⟨.slice el, b1, b2, z1⟩) (hsz : 0 < sz) (k : DR C ops K rest ⟨upd s t (.v (.int .i64 (c : Int))), h⟩)
    (e : argsD C ⟨s, h⟩ o = [.own l n T sz] := by simp only [byteD, implies_true, setD, bslF, buildF, buildL, List.zip_cons_cons, List.zip_nil_right, List.zip_nil_left, pureD, rng0, rng1, rng2, rng3, rng4, rng5, rng6, rng7, rng8, List.getD_cons_zero, List.getD_cons_succ, Nat.reduceLeDiff, decide_true, decide_false, List.all_cons, List.all_nil, dqF, nilF, callQ, argsD, Op.operands, Call.operands, evD, cD, gip, upd, look, List.map, List.map_cons, List.map_nil, binF, binI, shI, binS, unF, wD, kLo, kHi, kMod, kBits, convF, loadF, fieldF, faddrF, indexF, iaddrF, lenF, lenD, sliceF, sliceF3, minF, sliceD, cutL, bndF, sub, nc, aggT, aggB, scB, tnth, elems, L_B, L_mk, List.getElem?_cons_zero, List.getElem?_cons_succ, reduceIte, reduceCtorEq, Option.isSome, List.toList_toArray, Nat.reduceAdd, Nat.reduceSub, Nat.reduceMul, Nat.reduceEqDiff, Nat.reduceLT, Nat.reduceBEq, mkF, mkG, Bool.and_true, Bool.true_and, Bool.and_false, Bool.false_and, beq_self_eq_true, mkC, Int.reduceToNat, Int.toNat_natCast, Int.reduceAdd, Int.reduceSub, Int.reduceMul, Nat.zero_add, Nat.add_zero, Nat.mul_one, and_true, true_and, Option.getD_some, Option.getD_none, ne_eq, not_true_eq_false, not_false_eq_true, decide_not, Bool.not_true, Bool.not_false, Int.reduceLT, Int.reduceLE, Int.reduceEq, Int.reduceNe, Int.reduceGT, Int.reduceGE, gt_iff_lt, ge_iff_le, Nat.reduceLT, Nat.reduceLeDiff, u32D, u8D, iD, bD, strD, u32_xor, u32_or, u32_and, u32_add, u32_not, u32_shr, u32_shl, u8_u32, u32_u8, envOf, tyT, gtab, hX]; exact rfl) (hn : 0 < n := by omega) : DR C ops K (o :: rest) ⟨s, h⟩ := DR_c t hg hd ht' e (DQ_cap ho hT hc hsz hn) k
theorem reslx {ty l n T sz c el b1 b2 : Nat} {z1 : D} {e0 : TE} {x u : Operand} {kk : IntKind} {i : Int} (m : Nat) (hc : CapC C l T (c * sz)) (t : Nat) (hg : o.guard = none) (hd : o.dst = some t) (ht' : Nat.blt t C.n = true) (ho : o.op = .slice ty x none (some u) none) (hT : C.T ty = some ⟨.slice el, b1, b2, z1⟩) (hE : C.T el = some e0) (hsz : 0 < sz) (k : DR C ops K rest ⟨upd s t (.own l m T sz), h⟩)
    (e : argsD C ⟨s, h⟩ o = [.own l n T sz, .v (.int kk i)] := by simp only [byteD, implies_true, setD, bslF, buildF, buildL, List.zip_cons_cons, List.zip_nil_right, List.zip_nil_left, pureD, rng0, rng1, rng2, rng3, rng4, rng5, rng6, rng7, rng8, List.getD_cons_zero, List.getD_cons_succ, Nat.reduceLeDiff, decide_true, decide_false, List.all_cons, List.all_nil, dqF, nilF, callQ, argsD, Op.operands, Call.operands, evD, cD, gip, upd, look, List.map, List.map_cons, List.map_nil, binF, binI, shI, binS, unF, wD, kLo, kHi, kMod, kBits, convF, loadF, fieldF, faddrF, indexF, iaddrF, lenF, lenD, sliceF, sliceF3, minF, sliceD, cutL, bndF, sub, nc, aggT, aggB, scB, tnth, elems, L_B, L_mk, List.getElem?_cons_zero, List.getElem?_cons_succ, reduceIte, reduceCtorEq, Option.isSome, List.toList_toArray, Nat.reduceAdd, Nat.reduceSub, Nat.reduceMul, Nat.reduceEqDiff, Nat.reduceLT, Nat.reduceBEq, mkF, mkG, Bool.and_true, Bool.true_and, Bool.and_false, Bool.false_and, beq_self_eq_true, mkC, Int.reduceToNat, Int.toNat_natCast, Int.reduceAdd, Int.reduceSub, Int.reduceMul, Nat.zero_add, Nat.add_zero, Nat.mul_one, and_true, true_and, Option.getD_some, Option.getD_none, ne_eq, not_true_eq_false, not_false_eq_true, decide_not, Bool.not_true, Bool.not_false, Int.reduceLT, Int.reduceLE, Int.reduceEq, Int.reduceNe, Int.reduceGT, Int.reduceGE, gt_iff_lt, ge_iff_le, Nat.reduceLT, Nat.reduceLeDiff, u32D, u8D, iD, bD, strD, u32_xor, u32_or, u32_and, u32_add, u32_not, u32_shr, u32_shl, u8_u32, u32_u8, envOf, tyT, gtab, hX]; exact rfl) (hn : 0 < n := by omega) (hi : i = (m : Int) := by omega) (hm : m ≤ c := by omega) : DR C ops K (o :: rest) ⟨s, h⟩ := DR_c t hg hd ht' e (DQ_resl ho hT hE hc hsz hn hi hm) k
theorem overx {g : Operand} {args : Array Operand} {ts : Array TypeId} {f : FuncId} {fn : Func} {ty el b1 b2 k off n T sz : Nat} {z1 : D} {e0 : TE} {α : Type} {l : List α} {z : α} {ee : α → D} {L : List D} {ps rs : Array TypeId} (t : Nat) (hg : o.guard = none) (hd : o.dst = some t) (ht' : Nat.blt t C.n = true) (ho : o.op = .call { callee := .value g, args := args, argTypes := ts })
    (hf : C.P.funcs[f]? = some fn) (hname : (fn.name == "runtime.NumGoroutine") = false) (hb : fn.body.isNone = true) (hn : Extern.findNext fn = none) (he : Extern.find fn = some (Extern.SlicesOverlaps.overlaps ps rs)) (hps : ps[0]? = some ty) (hT : C.T ty = some ⟨.slice el, b1, b2, z1⟩) (hE : C.T el = some e0) (hpos : ∀ x, 0 < nc (ee x))
    (kk : DR C ops K rest ⟨upd s t (.v (.bool false)), h⟩) (e : argsD C ⟨s, h⟩ o = [.fn f .nil, .sl l z ee, .osl k off n] := by simp only [Array.toList_append, List.cons_append, List.nil_append, byteD, implies_true, setD, bslF, buildF, buildL, List.zip_cons_cons, List.zip_nil_right, List.zip_nil_left, pureD, rng0, rng1, rng2, rng3, rng4, rng5, rng6, rng7, rng8, List.getD_cons_zero, List.getD_cons_succ, Nat.reduceLeDiff, decide_true, decide_false, List.all_cons, List.all_nil, dqF, nilF, callQ, argsD, Op.operands, Call.operands, evD, cD, gip, upd, look, List.map, List.map_cons, List.map_nil, binF, binI, shI, binS, unF, wD, kLo, kHi, kMod, kBits, convF, loadF, fieldF, faddrF, indexF, iaddrF, lenF, lenD, sliceF, sliceF3, minF, sliceD, cutL, bndF, sub, nc, aggT, aggB, scB, tnth, elems, L_B, L_mk, List.getElem?_cons_zero, List.getElem?_cons_succ, reduceIte, reduceCtorEq, Option.isSome, List.toList_toArray, Nat.reduceAdd, Nat.reduceSub, Nat.reduceMul, Nat.reduceEqDiff, Nat.reduceLT, Nat.reduceBEq, mkF, mkG, Bool.and_true, Bool.true_and, Bool.and_false, Bool.false_and, beq_self_eq_true, mkC, Int.reduceToNat, Int.toNat_natCast, Int.reduceAdd, Int.reduceSub, Int.reduceMul, Nat.zero_add, Nat.add_zero, Nat.mul_one, and_true, true_and, Option.getD_some, Option.getD_none, ne_eq, not_true_eq_false, not_false_eq_true, decide_not, Bool.not_true, Bool.not_false, Int.reduceLT, Int.reduceLE, Int.reduceEq, Int.reduceNe, Int.reduceGT, Int.reduceGE, gt_iff_lt, ge_iff_le, Nat.reduceLT, Nat.reduceLeDiff, u32D, u8D, iD, bD, strD, u32_xor, u32_or, u32_and, u32_add, u32_not, u32_shr, u32_shl, u8_u32, u32_u8, envOf, tyT, gtab, hX]; exact rfl) (hl : l ≠ [] := by decide) (hk : h[k]? = some (some (.row L T sz)) := by exact rfl) (hs : sz ≠ 1 := by decide) (hn0 : 0 < n := by omega) :
    DR C ops K (o :: rest) ⟨s, h⟩ := DR_c t hg hd ht' e (DQ_overlaps ho hf hname hb hn he hps hT hE hl hpos hk hs hn0) kk
end
/-- the region that asks whether a slice is nil -/
theorem nilx {E : Env} {n : Nat} {pins : List Nat} {γ : Type 1} {M : Md E n pins γ} {r : Option Nat} {Q : Exit → γ → St → Prop} {g : γ} {id : Nat} {o1 o2 : Oper} {ls : List (Nat × D)} {h : List (Option Bk)} {t1 t ty u el b1 b2 : Nat} {z1 : D} {y : Operand} {α : Type} {l : List α} {z : α} {e : α → D} (live : List Nat)
    (k : ∀ b : Bool, (b = true → l = []) → KL live (Q .normal g) ⟨upd (upd (look ls) t1 (.sl l z e)) t (.v (.bool b)), h⟩)
    (hg1 : o1.guard = none) (hd1 : o1.dst = some t1) (ht1 : Nat.blt t1 n = true) (hg : o2.guard = none) (hd : o2.dst = some t) (ht' : Nat.blt t n = true) (ho : o2.op = .binOp .eql ty (.tmp t1) y u) (hT : E.T ty = some ⟨.slice el, b1, b2, z1⟩)
    (hm : ∀ (w0 : World) (A S0 : Nat → Prop) (f : Nat → Option Nat), dqF E.T h o1.op (argsD (mkG E n w0 A S0 (fxP pins f)) (mk ls h) o1) = some (True, .sl l z e)) (hx : ∀ (w0 : World) (A S0 : Nat → Prop) (f : Nat → Option Nat), argsD (mkG E n w0 A S0 (fxP pins f)) ⟨upd (look ls) t1 (.sl l z e), h⟩ o2 = [.sl l z e, .v (.slice none 0 0)]) :
    DX M r (.region id [o1, o2].toArray false) Q g (mk ls h) := by
  refine DX_regL (DL_split 1 fun w0 A S0 f0 => ?_)
  refine DR_q t1 hg1 hd1 ht1 (hm w0 A S0 f0) trivial (show _ from ?_)
  exact DL_nilq hg hd ht' ho hT hx fun b hb => DL_nil live (k b hb)
theorem docallr1 {E : Env} {C : Cx} (hE : EnvC E C) {o : Oper} {st : St} {f : FuncId} {g : Operand} {args : Array Operand} {ts : Array TypeId} {l n n' T sz : Nat} {L L' : List D} {xs : List D} (hc : PHn E f (.own 0 n T sz :: xs) [some (.row L T sz)] (.own 0 n' T sz) [some (.row L' T sz)]) (hL : L' ≠ [])
    (ho : o.op = .call { callee := .value g, args := args, argTypes := ts }) (hd : dstB C o = true) (hf : fnB C.P f = true) (hfx : C.fx l = none) (hx : argsD C st o = .fn f .nil :: .own l n T sz :: xs := by simp only [Array.toList_append, List.cons_append, List.nil_append, byteD, implies_true, setD, bslF, buildF, buildL, List.zip_cons_cons, List.zip_nil_right, List.zip_nil_left, pureD, rng0, rng1, rng2, rng3, rng4, rng5, rng6, rng7, rng8, List.getD_cons_zero, List.getD_cons_succ, Nat.reduceLeDiff, decide_true, decide_false, List.all_cons, List.all_nil, dqF, nilF, callQ, argsD, Op.operands, Call.operands, evD, cD, gip, upd, look, List.map, List.map_cons, List.map_nil, binF, binI, shI, binS, unF, wD, kLo, kHi, kMod, kBits, convF, loadF, fieldF, faddrF, indexF, iaddrF, lenF, lenD, sliceF, sliceF3, minF, sliceD, cutL, bndF, sub, nc, aggT, aggB, scB, tnth, elems, L_B, L_mk, List.getElem?_cons_zero, List.getElem?_cons_succ, reduceIte, reduceCtorEq, Option.isSome, List.toList_toArray, Nat.reduceAdd, Nat.reduceSub, Nat.reduceMul, Nat.reduceEqDiff, Nat.reduceLT, Nat.reduceBEq, mkF, mkG, Bool.and_true, Bool.true_and, Bool.and_false, Bool.false_and, beq_self_eq_true, mkC, Int.reduceToNat, Int.toNat_natCast, Int.reduceAdd, Int.reduceSub, Int.reduceMul, Nat.zero_add, Nat.add_zero, Nat.mul_one, and_true, true_and, Option.getD_some, Option.getD_none, ne_eq, not_true_eq_false, not_false_eq_true, decide_not, Bool.not_true, Bool.not_false, Int.reduceLT, Int.reduceLE, Int.reduceEq, Int.reduceNe, Int.reduceGT, Int.reduceGE, gt_iff_lt, ge_iff_le, Nat.reduceLT, Nat.reduceLeDiff, u32D, u8D, iD, bD, strD, u32_xor, u32_or, u32_and, u32_add, u32_not, u32_shr, u32_shl, u8_u32, u32_u8, envOf, tyT, gtab, hX] <;> exact rfl)
    (hl : st.h[l]? = some (some (.row L T sz)) := by exact rfl) (hp : xs.all pureD = true := by rfl) : DO C o st (St.put ⟨fun t => kil l (st.s t), (kilH l st.h).set l (some (.row L' T sz))⟩ o.dst (.own l n' T sz)) := DO_callR hE ho hd hf hfx hl hx hp hL hc
section
variable {E : Env} {C : Cx} {ops : Array Oper} {K : St → Prop} {o : Oper} {rest : List Oper} {s : Nat → D} {h : List (Option Bk)} {f : FuncId} {g : Operand} {args : Array Operand} {ts : Array TypeId} {xs ys : List D} {d : D}
theorem clx (t : Nat) (hE : EnvC E C) (hle : All2 (Le h) xs ys) (hc : PC E f ys d) (hfl : flatD d = true) (hg : o.guard = none) (hd : o.dst = some t) (ht' : Nat.blt t C.n = true) (ho : o.op = .call { callee := .value g, args := args, argTypes := ts }) (hf : fnB C.P f = true) (k : DR C ops K rest ⟨upd s t d, h⟩)
    (e : argsD C ⟨s, h⟩ o = .fn f .nil :: xs := by simp only [Array.toList_append, List.cons_append, List.nil_append, byteD, implies_true, setD, bslF, buildF, buildL, List.zip_cons_cons, List.zip_nil_right, List.zip_nil_left, pureD, rng0, rng1, rng2, rng3, rng4, rng5, rng6, rng7, rng8, List.getD_cons_zero, List.getD_cons_succ, Nat.reduceLeDiff, decide_true, decide_false, List.all_cons, List.all_nil, dqF, nilF, callQ, argsD, Op.operands, Call.operands, evD, cD, gip, upd, look, List.map, List.map_cons, List.map_nil, binF, binI, shI, binS, unF, wD, kLo, kHi, kMod, kBits, convF, loadF, fieldF, faddrF, indexF, iaddrF, lenF, lenD, sliceF, sliceF3, minF, sliceD, cutL, bndF, sub, nc, aggT, aggB, scB, tnth, elems, L_B, L_mk, List.getElem?_cons_zero, List.getElem?_cons_succ, reduceIte, reduceCtorEq, Option.isSome, List.toList_toArray, Nat.reduceAdd, Nat.reduceSub, Nat.reduceMul, Nat.reduceEqDiff, Nat.reduceLT, Nat.reduceBEq, mkF, mkG, Bool.and_true, Bool.true_and, Bool.and_false, Bool.false_and, beq_self_eq_true, mkC, Int.reduceToNat, Int.toNat_natCast, Int.reduceAdd, Int.reduceSub, Int.reduceMul, Nat.zero_add, Nat.add_zero, Nat.mul_one, and_true, true_and, Option.getD_some, Option.getD_none, ne_eq, not_true_eq_false, not_false_eq_true, decide_not, Bool.not_true, Bool.not_false, Int.reduceLT, Int.reduceLE, Int.reduceEq, Int.reduceNe, Int.reduceGT, Int.reduceGE, gt_iff_lt, ge_iff_le, Nat.reduceLT, Nat.reduceLeDiff, u32D, u8D, iD, bD, strD, u32_xor, u32_or, u32_and, u32_add, u32_not, u32_shr, u32_shl, u8_u32, u32_u8, envOf, tyT, gtab, hX] <;> exact rfl) : DR C ops K (o :: rest) ⟨s, h⟩ := DR_c t hg hd ht' e (DQ_callf hE (cs := []) ho hf rfl (by rw [List.append_nil]; exact hle) hfl hc) k
end
end Go.Proofs.YtedioenakmgdiaaDoor

namespace Go.Proofs.YtedioenakmgdiaaDoor
set_option linter.unusedSimpArgs false
set_option linter.unusedVariables false
set_option maxRecDepth 10000
open Go.RowKit
theorem gr_pure (g : Gr) : pureD (grD g) = true ∧ nc (grD g) = 36 := ⟨rfl, rfl⟩
theorem grs_pure {l : List Gr} {d : D} (h : d ∈ l.map grD) : pureD d = true ∧ nc d = 36 := by obtain ⟨g, _, rfl⟩ := List.mem_map.1 h; exact gr_pure g
/-- a slice of one grant, as it is written down -/
def oneD (g : Gr) : D := .sl (List.range 1) 0 (fun i => [grD g].getD i .dead)
theorem oneD_eq (g : Gr) : oneD g = .sl (List.range 1) 0 (fun i => [grD g].getD i .dead) := rfl
theorem oneD_pos (g : Gr) (x : Nat) : 0 < nc ([grD g].getD x .dead) := by
  cases x with
  | zero => exact (show 0 < 36 by decide)
  | succ x => exact (show 0 < 1 by decide)
set_option maxHeartbeats 4000000 in
theorem clone_c (b : List Gr) (hb : b.length ≤ 256) : PH (envOf Tryd.prog) 79 [bkD b] [] (.own 0 b.length 68 36) [some (.row (b.map grD) 68 36)] := by
  have hX := and_true; refine PN0_at Tryd.func79 rfl Tryd.ntmps79 Tryd.results79 rfl (by simp only [argsL, Nat.reduceAdd, u32D, u8D, iD, bD, strD, u32_xor, u32_or, u32_and, u32_add, u32_not, u32_shr, u32_shl, u8_u32, u32_u8]; exact rfl) ?_; intro w0 A
  have hX := And.intro bkD_eq (and_true)
  (repeat refine DX_seq ?_); refine rgx [0] ?_
  (repeat refine DX_seq ?_); refine nilx (t1 := 3) (t := 4) [0, 4] (fun bb hbb => kl1 ?_) rfl rfl rfl rfl rfl rfl rfl rfl (fun _ _ _ _ => by simp only [byteD, implies_true, setD, bslF, buildF, buildL, List.zip_cons_cons, List.zip_nil_right, List.zip_nil_left, pureD, rng0, rng1, rng2, rng3, rng4, rng5, rng6, rng7, rng8, List.getD_cons_zero, List.getD_cons_succ, Nat.reduceLeDiff, decide_true, decide_false, List.all_cons, List.all_nil, dqF, nilF, callQ, argsD, Op.operands, Call.operands, evD, cD, gip, upd, look, List.map, List.map_cons, List.map_nil, binF, binI, shI, binS, unF, wD, kLo, kHi, kMod, kBits, convF, loadF, fieldF, faddrF, indexF, iaddrF, lenF, lenD, sliceF, sliceF3, minF, sliceD, cutL, bndF, sub, nc, aggT, aggB, scB, tnth, elems, L_B, L_mk, List.getElem?_cons_zero, List.getElem?_cons_succ, reduceIte, reduceCtorEq, Option.isSome, List.toList_toArray, Nat.reduceAdd, Nat.reduceSub, Nat.reduceMul, Nat.reduceEqDiff, Nat.reduceLT, Nat.reduceBEq, mkF, mkG, Bool.and_true, Bool.true_and, Bool.and_false, Bool.false_and, beq_self_eq_true, mkC, Int.reduceToNat, Int.toNat_natCast, Int.reduceAdd, Int.reduceSub, Int.reduceMul, Nat.zero_add, Nat.add_zero, Nat.mul_one, and_true, true_and, Option.getD_some, Option.getD_none, ne_eq, not_true_eq_false, not_false_eq_true, decide_not, Bool.not_true, Bool.not_false, Int.reduceLT, Int.reduceLE, Int.reduceEq, Int.reduceNe, Int.reduceGT, Int.reduceGE, gt_iff_lt, ge_iff_le, Nat.reduceLT, Nat.reduceLeDiff, u32D, u8D, iD, bD, strD, u32_xor, u32_or, u32_and, u32_add, u32_not, u32_shr, u32_shl, u8_u32, u32_u8, envOf, tyT, gtab, hX] <;> exact rfl) (fun _ _ _ _ => by simp only [byteD, implies_true, setD, bslF, buildF, buildL, List.zip_cons_cons, List.zip_nil_right, List.zip_nil_left, pureD, rng0, rng1, rng2, rng3, rng4, rng5, rng6, rng7, rng8, List.getD_cons_zero, List.getD_cons_succ, Nat.reduceLeDiff, decide_true, decide_false, List.all_cons, List.all_nil, dqF, nilF, callQ, argsD, Op.operands, Call.operands, evD, cD, gip, upd, look, List.map, List.map_cons, List.map_nil, binF, binI, shI, binS, unF, wD, kLo, kHi, kMod, kBits, convF, loadF, fieldF, faddrF, indexF, iaddrF, lenF, lenD, sliceF, sliceF3, minF, sliceD, cutL, bndF, sub, nc, aggT, aggB, scB, tnth, elems, L_B, L_mk, List.getElem?_cons_zero, List.getElem?_cons_succ, reduceIte, reduceCtorEq, Option.isSome, List.toList_toArray, Nat.reduceAdd, Nat.reduceSub, Nat.reduceMul, Nat.reduceEqDiff, Nat.reduceLT, Nat.reduceBEq, mkF, mkG, Bool.and_true, Bool.true_and, Bool.and_false, Bool.false_and, beq_self_eq_true, mkC, Int.reduceToNat, Int.toNat_natCast, Int.reduceAdd, Int.reduceSub, Int.reduceMul, Nat.zero_add, Nat.add_zero, Nat.mul_one, and_true, true_and, Option.getD_some, Option.getD_none, ne_eq, not_true_eq_false, not_false_eq_true, decide_not, Bool.not_true, Bool.not_false, Int.reduceLT, Int.reduceLE, Int.reduceEq, Int.reduceNe, Int.reduceGT, Int.reduceGE, gt_iff_lt, ge_iff_le, Nat.reduceLT, Nat.reduceLeDiff, u32D, u8D, iD, bD, strD, u32_xor, u32_or, u32_and, u32_add, u32_not, u32_shr, u32_shl, u8_u32, u32_u8, envOf, tyT, gtab, hX] <;> exact rfl)
  cases bb with
  | true =>
    obtain rfl := hbb rfl
    (repeat refine DX_seq ?_); refine iftx ?_
    (repeat refine DX_seq ?_); refine rgx [2] ?_
    (repeat refine DX_seq ?_); refine DX_ret ?_; refine retx ?_; (try dsimp only [outV, unlist])
    exact FinH_nilo _ _
  | false =>
    (repeat refine DX_seq ?_); refine iffx ?_
    (repeat refine DX_seq ?_); refine DX_skip ?_
    (repeat refine DX_seq ?_); refine DX_reg [2] ?_; intro w0 A S0 f0
    refine ex rfl (dobsl1 rfl rfl rfl rfl rfl) ?_
    (repeat ((with_reducible show DR _ _ _ (_ :: _) _); first | (refine cx _ (envG _ _ _ _ _ _) rfl rfl rfl rfl rfl ?_ (hc := by first | fail))  | (refine sx ?_))); refine DR_nil ?_; refine kl1 ?_
    (repeat refine DX_seq ?_); refine DX_ret ?_; refine retx ?_; (try dsimp only [outV, unlist])
    simp only [List.nil_append, List.length_nil, Nat.zero_add, List.length_map]
    exact FinH.refl
theorem ins_rows (l : List Gr) (g : Gr) (i : Nat) : (l.take i ++ g :: l.drop i).map grD = (l.map grD).take i ++ grD g :: (l.map grD).drop i := by rw [List.map_append, List.map_cons, List.map_take, List.map_drop]
theorem ins_grow1 {A Z : List D} {x : D} {i k : Nat} (hA : A.length = i) (hZ : Z.length = k + 1) : (A ++ Z).take i ++ [x].take 1 ++ (A ++ Z).drop (i + 1) = (A ++ [x]) ++ Z.drop 1 := by
  subst hA
  rw [List.take_left, List.drop_append]
  simp
theorem ins_grow2 {A B Z : List D} {x : D} {i k : Nat} (hA : A.length = i) (hB : B.length = k) (hZ : Z.length = k) : ((A ++ [x]) ++ Z).take (i + 1) ++ B.take k ++ ((A ++ [x]) ++ Z).drop (i + 1 + k) = A ++ x :: B := by
  subst hA hB
  have h1 : (A ++ [x]).length = A.length + 1 := by simp
  rw [← h1, List.take_left, List.take_length, ← List.drop_drop, List.drop_left, List.drop_of_length_le (by omega)]
  simp
theorem ins_room1 {L : List D} {i k : Nat} (hk : i + k = L.length) (h0 : 0 < k) : L.take (i + 1) ++ (L.drop i).take k ++ L.drop (i + 1 + k) = L.take (i + 1) ++ L.drop i := by
  rw [List.drop_of_length_le (l := L) (i := i + 1 + k) (by omega), List.append_nil, List.take_of_length_le (l := L.drop i) (by rw [List.length_drop]; omega)]
theorem ins_room2 {L : List D} {x : D} {i : Nat} (hi : i < L.length) : (L.take (i + 1) ++ L.drop i).take i ++ [x].take 1 ++ (L.take (i + 1) ++ L.drop i).drop (i + 1) = L.take i ++ x :: L.drop i := by
  have h1 : (L.take (i + 1)).length = i + 1 := by rw [List.length_take]; omega
  have h2 : (L.take (i + 1) ++ L.drop i).drop (i + 1) = L.drop i := by
    have := List.drop_left (l₁ := L.take (i + 1)) (l₂ := L.drop i)
    rwa [h1] at this
  rw [h2, List.take_append_of_le_length (by omega), List.take_take, Nat.min_eq_left (by omega)]
  simp
set_option maxHeartbeats 8000000 in
theorem insertEnd_c (l : List Gr) (g : Gr) (hl : l.length ≤ 256) : PHn (envOf Tryd.prog) 84 [.own 0 l.length 68 36, iD (l.length : Int), oneD g] [some (.row (l.map grD) 68 36)] (.own 0 (l.length + 1) 68 36) [some (.row ((l ++ [g]).map grD) 68 36)] := by
  have hX := and_true; refine PHn_at Tryd.func84 rfl Tryd.ntmps84 Tryd.results84 rfl (by simp only [argsL, Nat.reduceAdd, u32D, u8D, iD, bD, strD, u32_xor, u32_or, u32_and, u32_add, u32_not, u32_shr, u32_shl, u8_u32, u32_u8]; exact rfl) ?_; intro w0 A bs0
  have d0 : decide ((1 : Int) = 0) = false := rfl
  have d1 : decide ((l.length : Int) = (l.length : Int)) = true := decide_eq_true rfl
  have hX := And.intro oneD_eq (And.intro d0 (And.intro d1 (@List.length_range)))
  (repeat refine DX_seq ?_); refine rgx [0, 1, 2] ?_
  (repeat refine DX_seq ?_); refine rgx [0, 1, 2] ?_
  (repeat refine DX_seq ?_); refine rgx [0, 1, 2, 7] ?_
  (repeat refine DX_seq ?_); refine DX_args (l' := [(0, .own 0 l.length 68 36), (1, iD (l.length : Int)), (2, oneD g), (7, iD 1)]) rfl ?_
  (repeat refine DX_seq ?_); refine rgx [0, 1, 2, 7, 16] ?_
  (repeat refine DX_seq ?_); refine iffx ?_
  (repeat refine DX_seq ?_); refine DX_skip ?_
  (repeat refine DX_seq ?_); refine rgx [0, 1, 2, 7, 8] ?_
  (repeat refine DX_seq ?_); refine rgx [0, 1, 2, 7, 8, 22] ?_
  (repeat refine DX_seq ?_); refine iftx ?_
  (repeat refine DX_seq ?_); refine DX_reg [6] ?_; intro w0 A S0 f0
  (repeat ((with_reducible show DR _ _ _ (_ :: _) _); first | (refine cx _ (envG _ _ _ _ _ _) rfl rfl rfl rfl rfl ?_ (hc := by first | fail))  | (refine sx ?_))); refine DR_nil ?_; refine kl1 ?_
  (repeat refine DX_seq ?_); refine DX_ret ?_; refine retx ?_; (try dsimp only [outV, unlist])
  simp only [List.map_append, List.map_cons, List.map_nil]
  exact FinH.refl
set_option maxHeartbeats 8000000 in
theorem insertIn_c (l : List Gr) (g : Gr) (i : Nat) (hi : i < l.length) (hl : l.length ≤ 256) : PHn (envOf Tryd.prog) 84 [.own 0 l.length 68 36, iD (i : Int), oneD g] [some (.row (l.map grD) 68 36)] (.own 0 (l.length + 1) 68 36) [some (.row ((l.take i ++ g :: l.drop i).map grD) 68 36)] := by
  have hX := and_true; refine PHn_atC Tryd.func84 rfl Tryd.ntmps84 Tryd.results84 rfl (by simp only [argsL, Nat.reduceAdd, u32D, u8D, iD, bD, strD, u32_xor, u32_or, u32_and, u32_add, u32_not, u32_shr, u32_shl, u8_u32, u32_u8]; exact rfl) (by omega) ?_; intro w0 A b0 cap hsh hcl hcm
  have d0 : decide ((1 : Int) = 0) = false := rfl
  have d1 : decide ((i : Int) = (l.length : Int)) = false := decide_eq_false (by omega)
  have hX := And.intro oneD_eq (And.intro d0 (And.intro d1 (@List.length_range)))
  (repeat refine DX_seq ?_); refine rgx [0, 1, 2] ?_
  (repeat refine DX_seq ?_); refine rgx [0, 1, 2] ?_
  (repeat refine DX_seq ?_); refine rgx [0, 1, 2, 7] ?_
  (repeat refine DX_seq ?_); refine DX_args (l' := [(0, .own 0 l.length 68 36), (1, iD (i : Int)), (2, oneD g), (7, iD 1)]) rfl ?_
  (repeat refine DX_seq ?_); refine rgx [0, 1, 2, 7, 16] ?_
  (repeat refine DX_seq ?_); refine iffx ?_
  (repeat refine DX_seq ?_); refine DX_skip ?_
  (repeat refine DX_seq ?_); refine rgx [0, 1, 2, 7, 8] ?_
  (repeat refine DX_seq ?_); refine rgx [0, 1, 2, 7, 8, 22] ?_
  (repeat refine DX_seq ?_); refine iffx ?_
  (repeat refine DX_seq ?_); refine DX_skip ?_
  have hA : ((l.map grD).take i).length = i := by rw [List.length_take, List.length_map]; omega
  have hB : ((l.map grD).drop i).length = l.length - i := by rw [List.length_drop, List.length_map]
  have hln : (l.map grD).length = l.length := List.length_map _
  have e1 : (l.length : Int) + (1 : Int) - (i : Int) = ((l.length + 1 - i : Nat) : Int) := by omega
  have e2 : ((i : Int) + (1 : Int)).toNat = i + 1 := by omega
  have hpA : ∀ d ∈ [grD g], pureD d = true ∧ nc d = 36 := fun d hd => by rw [List.mem_singleton.1 hd]; exact gr_pure g
  have hpB : ∀ d ∈ (l.map grD).drop i, pureD d = true ∧ nc d = 36 := fun d hd => grs_pure (List.mem_of_mem_drop hd)
  rw [ins_rows]
  by_cases hg : cap < l.length + 1
  · have d2 : decide ((cap : Int) < (l.length : Int) + (1 : Int)) = true := decide_eq_true (by omega)
    have hX := And.intro oneD_eq (And.intro d2 (And.intro e1 (And.intro hln (@List.length_range))))
    (repeat refine DX_seq ?_); refine DX_regC hsh [0, 1, 2, 7, 8, 31] ?_; intro w1 A1 S1 f1 hC
    iterate 4 ((with_reducible show DR _ _ _ (_ :: _) _); first | (refine cx _ (envG _ _ _ _ _ _) rfl rfl rfl rfl rfl ?_ (hc := by first | fail))  | (refine sx ?_))
    refine capx hC _ rfl rfl rfl rfl rfl (by decide) ?_
    (repeat ((with_reducible show DR _ _ _ (_ :: _) _); first | (refine cx _ (envG _ _ _ _ _ _) rfl rfl rfl rfl rfl ?_ (hc := by first | fail))  | (refine sx ?_))); refine DR_nil ?_; refine kl1 ?_
    (repeat refine DX_seq ?_); refine iftx ?_
    (repeat refine DX_seq ?_); refine DX_regC hsh [0, 1, 2, 7, 9] ?_; intro w1 A1 S1 f1 hC
    iterate 2 ((with_reducible show DR _ _ _ (_ :: _) _); first | (refine cx _ (envG _ _ _ _ _ _) rfl rfl rfl rfl rfl ?_ (hc := by first | fail))  | (refine sx ?_))
    refine reslx i hC _ rfl rfl rfl rfl rfl rfl (by decide) ?_
    iterate 5 ((with_reducible show DR _ _ _ (_ :: _) _); first | (refine cx _ (envG _ _ _ _ _ _) rfl rfl rfl rfl rfl ?_ (hc := by first | fail))  | (refine sx ?_))
    refine ex rfl (doappz1 (i := i) (l.length + 1 - i) (l.length + 1) (by omega) hC (by omega) rfl rfl rfl rfl rfl rfl rfl (by decide) (by decide)) ?_
    (repeat ((with_reducible show DR _ _ _ (_ :: _) _); first | (refine cx _ (envG _ _ _ _ _ _) rfl rfl rfl rfl rfl ?_ (hc := by first | fail))  | (refine sx ?_))); refine DR_nil ?_; refine kl1 ?_
    generalize hZ : List.replicate (l.length + 1 - i) _ = Z
    have hZl : Z.length = l.length - i + 1 := by rw [← hZ, List.length_replicate]; omega
    clear hZ
    have hAZ : ((l.map grD).take i ++ Z).length = l.length + 1 := by rw [List.length_append, hA, hZl]; omega
    generalize hAA : (l.map grD).take i = AA at *
    generalize hBB : (l.map grD).drop i = BB at *
    have r1 := ins_grow1 (x := grD g) hA hZl
    have r2 := ins_grow2 (x := grD g) (Z := Z.drop 1) hA hB (by rw [List.length_drop]; omega)
    have hl2 : ((AA ++ [grD g]) ++ Z.drop 1).length = l.length + 1 := by simp [hA, hZl]; omega
    have m1 : i * 36 / 36 = i := by omega
    have m2 : i * 36 % 36 = 0 := by omega
    have hBt : BB.take (l.length - i) = BB := List.take_of_length_le (by omega)
    have hX := And.intro oneD_eq (And.intro e2 (And.intro hAZ (And.intro hl2 (And.intro hln (And.intro hBB (And.intro m1 (And.intro m2 (And.intro hBt (@List.length_range)))))))))
    (repeat refine DX_seq ?_); refine DX_reg [0, 1, 7, 9] ?_; intro w0 A S0 f0
    iterate 4 ((with_reducible show DR _ _ _ (_ :: _) _); first | (refine cx _ (envG _ _ _ _ _ _) rfl rfl rfl rfl rfl ?_ (hc := by first | fail))  | (refine sx ?_))
    refine ex rfl (docopyR1 9 i 1 [grD g] _ r1 hpA rfl rfl rfl rfl rfl) ?_
    (repeat ((with_reducible show DR _ _ _ (_ :: _) _); first | (refine cx _ (envG _ _ _ _ _ _) rfl rfl rfl rfl rfl ?_ (hc := by first | fail))  | (refine sx ?_))); refine DR_nil ?_; refine kl1 ?_
    (repeat refine DX_seq ?_); refine DX_drw [9] 8 (by kernel_rfl) ?_; intro w0 A S0 f0; simp only [List.take, List.drop]; (repeat ((with_reducible show DRq _ _ _ (_ :: _) _); first | (refine cxq _ (envG _ _ _ _ _ _) rfl rfl rfl rfl rfl ?_ (hc := by first | fail)) | (refine sxq ?_))); refine DRq_nil ?_
    refine ex rfl (docopyR1 9 (i + 1) (l.length - i) BB _ r2 hpB rfl rfl rfl rfl rfl) ?_
    (repeat ((with_reducible show DR _ _ _ (_ :: _) _); first | (refine cx _ (envG _ _ _ _ _ _) rfl rfl rfl rfl rfl ?_ (hc := by first | fail))  | (refine sx ?_))); refine DR_nil ?_; refine kl1 ?_
    (repeat refine DX_seq ?_); refine rgx [6] ?_
    (repeat refine DX_seq ?_); refine DX_ret ?_; refine retx ?_; (try dsimp only [outV, unlist])
    exact FinH.of_weak rfl (WeakX.shift rfl rfl)
  · have d2 : decide ((cap : Int) < (l.length : Int) + (1 : Int)) = false := decide_eq_false (by omega)
    have hX := And.intro oneD_eq (And.intro d2 (And.intro e2 (And.intro hln (@List.length_range))))
    (repeat refine DX_seq ?_); refine DX_regC hsh [0, 1, 2, 7, 8, 31] ?_; intro w1 A1 S1 f1 hC
    iterate 4 ((with_reducible show DR _ _ _ (_ :: _) _); first | (refine cx _ (envG _ _ _ _ _ _) rfl rfl rfl rfl rfl ?_ (hc := by first | fail))  | (refine sx ?_))
    refine capx hC _ rfl rfl rfl rfl rfl (by decide) ?_
    (repeat ((with_reducible show DR _ _ _ (_ :: _) _); first | (refine cx _ (envG _ _ _ _ _ _) rfl rfl rfl rfl rfl ?_ (hc := by first | fail))  | (refine sx ?_))); refine DR_nil ?_; refine kl1 ?_
    (repeat refine DX_seq ?_); refine iffx ?_
    (repeat refine DX_seq ?_); refine DX_skip ?_
    (repeat refine DX_seq ?_); refine DX_regC hsh [0, 1, 2, 7, 8] ?_; intro w1 A1 S1 f1 hC
    iterate 4 ((with_reducible show DR _ _ _ (_ :: _) _); first | (refine cx _ (envG _ _ _ _ _ _) rfl rfl rfl rfl rfl ?_ (hc := by first | fail))  | (refine sx ?_))
    refine reslx (l.length + 1) hC _ rfl rfl rfl rfl rfl rfl (by decide) ?_
    (repeat ((with_reducible show DR _ _ _ (_ :: _) _); first | (refine cx _ (envG _ _ _ _ _ _) rfl rfl rfl rfl rfl ?_ (hc := by first | fail))  | (refine sx ?_))); refine DR_nil ?_; refine kl1 ?_
    have r1 := ins_room1 (L := l.map grD) (i := i) (k := l.length - i) (by omega) (by omega)
    have r2 := ins_room2 (L := l.map grD) (x := grD g) (i := i) (by omega)
    (repeat refine DX_seq ?_); refine DX_reg [0, 1, 2, 7, 8, 68] ?_; intro w0 A S0 f0
    iterate 6 ((with_reducible show DR _ _ _ (_ :: _) _); first | (refine cx _ (envG _ _ _ _ _ _) rfl rfl rfl rfl rfl ?_ (hc := by first | fail))  | (refine sx ?_))
    refine overx _ rfl rfl rfl rfl rfl rfl rfl rfl rfl rfl rfl rfl (oneD_pos g) ?_
    (repeat ((with_reducible show DR _ _ _ (_ :: _) _); first | (refine cx _ (envG _ _ _ _ _ _) rfl rfl rfl rfl rfl ?_ (hc := by first | fail))  | (refine sx ?_))); refine DR_nil ?_; refine kl1 ?_
    (repeat refine DX_seq ?_); refine iftx ?_
    (repeat refine DX_seq ?_); refine DX_drw [0, 1, 2] 8 (by kernel_rfl) ?_; intro w0 A S0 f0; simp only [List.take, List.drop]; (repeat ((with_reducible show DRq _ _ _ (_ :: _) _); first | (refine cxq _ (envG _ _ _ _ _ _) rfl rfl rfl rfl rfl ?_ (hc := by first | fail)) | (refine sxq ?_))); refine DRq_nil ?_
    refine ex rfl (docopyS1 74 (i + 1) i (l.length - i) _ r1 rfl rfl rfl rfl rfl) ?_
    (repeat ((with_reducible show DR _ _ _ (_ :: _) _); first | (refine cx _ (envG _ _ _ _ _ _) rfl rfl rfl rfl rfl ?_ (hc := by first | fail))  | (refine sx ?_))); refine DR_nil ?_; refine kl1 ?_
    have hl3 : ((l.map grD).take (i + 1) ++ (l.map grD).drop i).length = l.length + 1 := by rw [List.length_append, hB, List.length_take]; omega
    have hX := And.intro oneD_eq (And.intro hl3 (@List.length_range))
    (repeat refine DX_seq ?_); refine DX_reg [0] ?_; intro w0 A S0 f0
    iterate 4 ((with_reducible show DR _ _ _ (_ :: _) _); first | (refine cx _ (envG _ _ _ _ _ _) rfl rfl rfl rfl rfl ?_ (hc := by first | fail))  | (refine sx ?_))
    refine ex rfl (docopyR1 78 i 1 [grD g] _ r2 hpA rfl rfl rfl rfl rfl) ?_
    (repeat ((with_reducible show DR _ _ _ (_ :: _) _); first | (refine cx _ (envG _ _ _ _ _ _) rfl rfl rfl rfl rfl ?_ (hc := by first | fail))  | (refine sx ?_))); refine DR_nil ?_; refine kl1 ?_
    (repeat refine DX_seq ?_); refine rgx [6] ?_
    (repeat refine DX_seq ?_); refine DX_ret ?_; refine retx ?_; (try dsimp only [outV, unlist])
    exact FinH.refl
theorem insert_c (l : List Gr) (g : Gr) (i : Nat) (hi : i ≤ l.length) (hl : l.length ≤ 256) : PHn (envOf Tryd.prog) 84 [.own 0 l.length 68 36, iD (i : Int), oneD g] [some (.row (l.map grD) 68 36)] (.own 0 (l.length + 1) 68 36) [some (.row ((l.take i ++ g :: l.drop i).map grD) 68 36)] := by
  rcases Nat.lt_or_eq_of_le hi with h | rfl
  · exact insertIn_c l g i h hl
  · have := insertEnd_c l g hl
    simpa only [List.take_length, List.drop_length] using this
end Go.Proofs.YtedioenakmgdiaaDoor

namespace Go.Proofs.YtedioenakmgdiaaDoor
set_option linter.unusedSimpArgs false
set_option linter.unusedVariables false
set_option maxRecDepth 10000
open Go.RowKit
def cmp3 (x y : Int) : Int := if x < y then -1 else if y < x then 1 else 0
def cmpO (a b : Int) : Int := if a = 0 then b else a
/-- how two grants stand to each other -/
def ordS (a b : Gr) : Int := cmpO (cmp3 a.sv b.sv) (cmp3 a.fr b.fr)
def lessB (a b : Gr) : Bool := decide (a.sv < b.sv) || (decide (a.sv = b.sv) && decide (a.fr < b.fr))
theorem ordS_neg (a b : Gr) : decide (ordS a b < 0) = lessB a b := by
  unfold ordS lessB cmpO cmp3
  rcases Int.lt_trichotomy a.sv b.sv with h | h | h
  · simp [h]
  · simp only [h, Int.lt_irrefl, if_false, if_true, decide_false, decide_true, Bool.false_or, Bool.true_and]
    rcases Int.lt_trichotomy a.fr b.fr with h2 | h2 | h2
    · simp [h2]
    · simp [h2]
    · have h3 : ¬ a.fr < b.fr := by omega
      simp [h2, h3]
  · have h3 : ¬ a.sv < b.sv := by omega
    have h4 : ¬ a.sv = b.sv := by omega
    simp [h, h3, h4]
theorem nan_c (x : Int) : PC (envOf Tryd.prog) 116 [iD x] (bD false) := by
  have d0 : decide (x = x) = true := decide_eq_true rfl
  have hX := and_true; refine PC_atX Tryd.func116 rfl Tryd.ntmps116 Tryd.results116 rfl (by simp only [argsL, Nat.reduceAdd, u32D, u8D, iD, bD, strD, u32_xor, u32_or, u32_and, u32_add, u32_not, u32_shr, u32_shl, u8_u32, u32_u8]; exact rfl) ?_; intro w0 A
  have hX := And.intro d0 (Bool.not_true)
  (repeat refine DX_seq ?_); refine rgx [0] ?_
  (repeat refine DX_seq ?_); refine rgx [2] ?_
  (repeat refine DX_seq ?_); refine DX_ret ?_; refine retx ?_; (try dsimp only [outV, unlist])
  exact Fin_pure rfl
set_option maxHeartbeats 4000000 in
theorem comp_c (x y : Int) : PC (envOf Tryd.prog) 105 [iD x, iD y] (iD (cmp3 x y)) := by
  unfold cmp3
  have hX := and_true; refine PC_atX Tryd.func105 rfl Tryd.ntmps105 Tryd.results105 rfl (by simp only [argsL, Nat.reduceAdd, u32D, u8D, iD, bD, strD, u32_xor, u32_or, u32_and, u32_add, u32_not, u32_shr, u32_shl, u8_u32, u32_u8]; exact rfl) ?_; intro w0 A
  have hK := And.intro (nan_c x) (And.intro (nan_c y) trivial); (repeat refine DX_seq ?_); refine rgx [0, 1] ?_
  (repeat refine DX_seq ?_); refine rgx [0, 1, 5] ?_
  (repeat refine DX_seq ?_); refine rgx [0, 1, 5, 6] ?_
  (repeat refine DX_seq ?_); refine rgx [0, 1, 6, 11] ?_
  (repeat refine DX_seq ?_); refine iffx ?_
  (repeat refine DX_seq ?_); refine DX_skip ?_
  (repeat refine DX_seq ?_); refine rgx [0, 1, 13] ?_
  (repeat refine DX_seq ?_); refine iffx ?_
  (repeat refine DX_seq ?_); refine DX_skip ?_
  (repeat refine DX_seq ?_); refine rgx [0, 1, 16] ?_
  by_cases h1 : x < y
  · rw [if_pos h1]
    have d1 : decide (x < y) = true := decide_eq_true h1
    have hX := And.intro d1 (and_true)
    (repeat refine DX_seq ?_); refine iftx ?_
    (repeat refine DX_seq ?_); refine rgx [4] ?_
    (repeat refine DX_seq ?_); refine DX_ret ?_; refine retx ?_; (try dsimp only [outV, unlist])
    exact Fin_pure rfl
  · rw [if_neg h1]
    have d1 : decide (x < y) = false := decide_eq_false h1
    have hX := And.intro d1 (and_true)
    (repeat refine DX_seq ?_); refine iffx ?_
    (repeat refine DX_seq ?_); refine DX_skip ?_
    (repeat refine DX_seq ?_); refine rgx [19] ?_
    by_cases h2 : y < x
    · rw [if_pos h2]
      have d2 : decide (y < x) = true := decide_eq_true h2
      have hX := And.intro d2 (and_true)
      (repeat refine DX_seq ?_); refine iftx ?_
      (repeat refine DX_seq ?_); refine rgx [4] ?_
      (repeat refine DX_seq ?_); refine DX_ret ?_; refine retx ?_; (try dsimp only [outV, unlist])
      exact Fin_pure rfl
    · rw [if_neg h2]
      have d2 : decide (y < x) = false := decide_eq_false h2
      have hX := And.intro d2 (and_true)
      (repeat refine DX_seq ?_); refine iffx ?_
      (repeat refine DX_seq ?_); refine DX_skip ?_
      (repeat refine DX_seq ?_); refine rgx [4] ?_
      (repeat refine DX_seq ?_); refine DX_ret ?_; refine retx ?_; (try dsimp only [outV, unlist])
      exact Fin_pure rfl
theorem nan6_c (x : Int) : PC (envOf Tryd.prog) 117 [iD x] (bD false) := by
  have d0 : decide (x = x) = true := decide_eq_true rfl
  have hX := and_true; refine PC_atX Tryd.func117 rfl Tryd.ntmps117 Tryd.results117 rfl (by simp only [argsL, Nat.reduceAdd, u32D, u8D, iD, bD, strD, u32_xor, u32_or, u32_and, u32_add, u32_not, u32_shr, u32_shl, u8_u32, u32_u8]; exact rfl) ?_; intro w0 A
  have hX := And.intro d0 (Bool.not_true)
  (repeat refine DX_seq ?_); refine rgx [0] ?_
  (repeat refine DX_seq ?_); refine rgx [2] ?_
  (repeat refine DX_seq ?_); refine DX_ret ?_; refine retx ?_; (try dsimp only [outV, unlist])
  exact Fin_pure rfl
set_option maxHeartbeats 4000000 in
theorem comp6_c (x y : Int) : PC (envOf Tryd.prog) 106 [iD x, iD y] (iD (cmp3 x y)) := by
  unfold cmp3
  have hX := and_true; refine PC_atX Tryd.func106 rfl Tryd.ntmps106 Tryd.results106 rfl (by simp only [argsL, Nat.reduceAdd, u32D, u8D, iD, bD, strD, u32_xor, u32_or, u32_and, u32_add, u32_not, u32_shr, u32_shl, u8_u32, u32_u8]; exact rfl) ?_; intro w0 A
  have hK := And.intro (nan6_c x) (And.intro (nan6_c y) trivial); (repeat refine DX_seq ?_); refine rgx [0, 1] ?_
  (repeat refine DX_seq ?_); refine rgx [0, 1, 5] ?_
  (repeat refine DX_seq ?_); refine rgx [0, 1, 5, 6] ?_
  (repeat refine DX_seq ?_); refine rgx [0, 1, 6, 11] ?_
  (repeat refine DX_seq ?_); refine iffx ?_
  (repeat refine DX_seq ?_); refine DX_skip ?_
  (repeat refine DX_seq ?_); refine rgx [0, 1, 13] ?_
  (repeat refine DX_seq ?_); refine iffx ?_
  (repeat refine DX_seq ?_); refine DX_skip ?_
  (repeat refine DX_seq ?_); refine rgx [0, 1, 16] ?_
  by_cases h1 : x < y
  · rw [if_pos h1]
    have d1 : decide (x < y) = true := decide_eq_true h1
    have hX := And.intro d1 (and_true)
    (repeat refine DX_seq ?_); refine iftx ?_
    (repeat refine DX_seq ?_); refine rgx [4] ?_
    (repeat refine DX_seq ?_); refine DX_ret ?_; refine retx ?_; (try dsimp only [outV, unlist])
    exact Fin_pure rfl
  · rw [if_neg h1]
    have d1 : decide (x < y) = false := decide_eq_false h1
    have hX := And.intro d1 (and_true)
    (repeat refine DX_seq ?_); refine iffx ?_
    (repeat refine DX_seq ?_); refine DX_skip ?_
    (repeat refine DX_seq ?_); refine rgx [19] ?_
    by_cases h2 : y < x
    · rw [if_pos h2]
      have d2 : decide (y < x) = true := decide_eq_true h2
      have hX := And.intro d2 (and_true)
      (repeat refine DX_seq ?_); refine iftx ?_
      (repeat refine DX_seq ?_); refine rgx [4] ?_
      (repeat refine DX_seq ?_); refine DX_ret ?_; refine retx ?_; (try dsimp only [outV, unlist])
      exact Fin_pure rfl
    · rw [if_neg h2]
      have d2 : decide (y < x) = false := decide_eq_false h2
      have hX := And.intro d2 (and_true)
      (repeat refine DX_seq ?_); refine iffx ?_
      (repeat refine DX_seq ?_); refine DX_skip ?_
      (repeat refine DX_seq ?_); refine rgx [4] ?_
      (repeat refine DX_seq ?_); refine DX_ret ?_; refine retx ?_; (try dsimp only [outV, unlist])
      exact Fin_pure rfl
/-- two numbers, as they are written down -/
def twoD (a b : Int) : D := .sl (List.range 2) 0 (fun i => [iD a, iD b].getD i .dead)
theorem twoD_eq (a b : Int) : twoD a b = .sl (List.range 2) 0 (fun i => [D.v (.int .i64 a), D.v (.int .i64 b)].getD i .dead) := rfl
set_option maxHeartbeats 4000000 in
theorem or_c (a b : Int) : PC (envOf Tryd.prog) 104 [twoD a b] (iD (cmpO a b)) := by
  have r0 : (List.range 2).getD 0 0 = 0 := rfl
  have r1 : (List.range 2).getD 1 0 = 1 := rfl
  unfold cmpO
  have hX := and_true; refine PC_atX Tryd.func104 rfl Tryd.ntmps104 Tryd.results104 rfl (by simp only [argsL, Nat.reduceAdd, u32D, u8D, iD, bD, strD, u32_xor, u32_or, u32_and, u32_add, u32_not, u32_shr, u32_shl, u8_u32, u32_u8]; exact rfl) ?_; intro w0 A
  have hX := And.intro twoD_eq (@List.length_range)
  (repeat refine DX_seq ?_); refine rgx [0] ?_
  (repeat refine DX_seq ?_); refine rgx [0, 3] ?_
  (repeat refine DX_seq ?_); refine rgx [3, 6, 7, 8] ?_
  (repeat refine DX_seq ?_); refine DX_block ?_
  (repeat refine DX_seq ?_); refine DX_loop (fun m _ st => ∃ k, k + m = 2 ∧ (0 < k → a = 0) ∧ (1 < k → b = 0) ∧ st = mk [(3, iD 0), (6, twoD a b), (7, iD ((2 : Nat) : Int)), (8, iD (k : Int))] []) 2 ⟨_, WeakX.refl _, 0, by omega, by omega, by omega, rfl⟩ ?_
  rintro m _ _ ⟨k, hk, ha, hb, rfl⟩
  have hX := And.intro twoD_eq (@List.length_range)
  (repeat refine DX_seq ?_); refine rgx [3, 6, 7, 8, 9] ?_
  (repeat refine DX_seq ?_); refine ifx ?_ ?_
  · intro hc; (try simp only [hcs, ne_eq] at hc)
    (repeat refine DX_seq ?_); refine DX_skip ?_
    (repeat refine DX_seq ?_); refine DX_block ?_
    rcases (show k = 0 ∨ k = 1 by omega) with rfl | rfl
    · by_cases h0 : a = 0
      · have d0 : decide (a = 0) = true := decide_eq_true h0
        have hX := And.intro twoD_eq (And.intro @List.length_range (And.intro r0 (And.intro d0 (Bool.not_true))))
        (repeat refine DX_seq ?_); refine rgx [3, 5, 6, 7, 8] ?_
        (repeat refine DX_seq ?_); refine rgx [3, 5, 6, 7, 8, 14] ?_
        (repeat refine DX_seq ?_); refine iffx ?_
        (repeat refine DX_seq ?_); refine DX_skip ?_
        (repeat refine DX_seq ?_); refine rgx [3, 6, 7, 8] ?_
        refine ⟨_, m - 1, WeakX.pick [3, 6, 7, 8], by omega, 0 + 1, by omega, fun _ => h0, by omega, ?_⟩
        refine pk1 ?_; rfl
      · have d0 : decide (a = 0) = false := decide_eq_false h0
        rw [if_neg h0]
        have hX := And.intro twoD_eq (And.intro @List.length_range (And.intro r0 (And.intro d0 (Bool.not_false))))
        (repeat refine DX_seq ?_); refine rgx [3, 5, 6, 7, 8] ?_
        (repeat refine DX_seq ?_); refine rgx [3, 5, 6, 7, 8, 14] ?_
        (repeat refine DX_seq ?_); refine iftx ?_
        (repeat refine DX_seq ?_); refine rgx [2] ?_
        (repeat refine DX_seq ?_); refine DX_ret ?_; refine retx ?_; (try dsimp only [outV, unlist])
        exact Fin_pure rfl
    · by_cases h0 : b = 0
      · have d0 : decide (b = 0) = true := decide_eq_true h0
        have hX := And.intro twoD_eq (And.intro @List.length_range (And.intro r1 (And.intro d0 (Bool.not_true))))
        (repeat refine DX_seq ?_); refine rgx [3, 5, 6, 7, 8] ?_
        (repeat refine DX_seq ?_); refine rgx [3, 5, 6, 7, 8, 14] ?_
        (repeat refine DX_seq ?_); refine iffx ?_
        (repeat refine DX_seq ?_); refine DX_skip ?_
        (repeat refine DX_seq ?_); refine rgx [3, 6, 7, 8] ?_
        refine ⟨_, m - 1, WeakX.pick [3, 6, 7, 8], by omega, 1 + 1, by omega, fun _ => ha (by omega), fun _ => h0, ?_⟩
        refine pk1 ?_; rfl
      · have d0 : decide (b = 0) = false := decide_eq_false h0
        rw [if_pos (ha (by omega))]
        have hX := And.intro twoD_eq (And.intro @List.length_range (And.intro r1 (And.intro d0 (Bool.not_false))))
        (repeat refine DX_seq ?_); refine rgx [3, 5, 6, 7, 8] ?_
        (repeat refine DX_seq ?_); refine rgx [3, 5, 6, 7, 8, 14] ?_
        (repeat refine DX_seq ?_); refine iftx ?_
        (repeat refine DX_seq ?_); refine rgx [2] ?_
        (repeat refine DX_seq ?_); refine DX_ret ?_; refine retx ?_; (try dsimp only [outV, unlist])
        exact Fin_pure rfl
  · intro hc; (try simp only [hcs, ne_eq] at hc)
    obtain rfl : k = 2 := by omega
    rw [if_pos (ha (by omega)), hb (by omega)]
    (repeat refine DX_seq ?_); refine DX_exit ?_
    (repeat refine DX_seq ?_); refine rgx [2] ?_
    (repeat refine DX_seq ?_); refine DX_ret ?_; refine retx ?_; (try dsimp only [outV, unlist])
    exact Fin_pure rfl
set_option maxHeartbeats 4000000 in
theorem order_c (a b : Gr) : PC (envOf Tryd.prog) 82 [grD a, grD b] (iD (ordS a b)) := by
  have hX := and_true; refine PC_atX Tryd.func82 rfl Tryd.ntmps82 Tryd.results82 rfl (by simp only [argsL, Nat.reduceAdd, u32D, u8D, iD, bD, strD, u32_xor, u32_or, u32_and, u32_add, u32_not, u32_shr, u32_shl, u8_u32, u32_u8]; exact rfl) ?_; intro w0 A
  have hX := And.intro grD_eq (and_true)
  have hK := And.intro (comp_c a.sv b.sv) (And.intro (comp6_c a.fr b.fr) (And.intro (or_c (cmp3 a.sv b.sv) (cmp3 a.fr b.fr)) trivial)); (repeat refine DX_seq ?_); refine rgx [2, 3] ?_
  (repeat refine DX_seq ?_); refine rqx [4] ?_
  (repeat refine DX_seq ?_); refine DX_ret ?_; refine retx ?_; (try dsimp only [outV, unlist])
  exact Fin_pure rfl
/-- where a grant belongs, p, is found -/
def serD (b : List Gr) (g : Gr) (p : Nat) : D := .tup (.cons (iD (p : Int)) (.cons (bD (decide ((p : Int) < (b.length : Int)) && decide (ordS (b.getD p gz) g = 0))) .nil))
theorem half_lt {i j : Nat} (h : i < j) : i ≤ (i + j) / 2 ∧ (i + j) / 2 < j := by omega
set_option maxHeartbeats 8000000 in
theorem search_c (b : List Gr) (g : Gr) (p : Nat) (hb : b.length ≤ 256) (hp : p ≤ b.length) (hP : ∀ k, k < b.length → lessB (b.getD k gz) g = decide (k < p)) :
    PC (envOf Tryd.prog) 81 [bkD b, grD g, .fn 82 .nil] (serD b g p) := by
  have hX := and_true; refine PC_atX Tryd.func81 rfl Tryd.ntmps81 Tryd.results81 rfl (by simp only [argsL, Nat.reduceAdd, u32D, u8D, iD, bD, strD, u32_xor, u32_or, u32_and, u32_add, u32_not, u32_shr, u32_shl, u8_u32, u32_u8]; exact rfl) ?_; intro w0 A
  have hX := And.intro bkD_eq (and_true)
  (repeat refine DX_seq ?_); refine rgx [0, 2, 4] ?_
  (repeat refine DX_seq ?_); refine rgx [0, 2, 4, 8] ?_
  (repeat refine DX_seq ?_); refine rgx [0, 2, 4, 8, 9, 10] ?_
  (repeat refine DX_seq ?_); refine DX_block ?_
  (repeat refine DX_seq ?_); refine DX_loop (fun m _ st => ∃ i j, i + m = j ∧ i ≤ p ∧ p ≤ j ∧ j ≤ b.length ∧ st = mk [(0, bkD b), (2, .fn 82 .nil), (4, .ptr 0 0), (8, iD (b.length : Int)), (9, iD (i : Int)), (10, iD (j : Int))] [some (.one (grD g))]) b.length ⟨_, WeakX.refl _, 0, b.length, by omega, by omega, hp, by omega, rfl⟩ ?_
  rintro m _ _ ⟨i, j, hij, hi, hj, hjn, rfl⟩
  have hX := And.intro bkD_eq (and_true)
  (repeat refine DX_seq ?_); refine rgx [0, 2, 4, 8, 9, 10, 17] ?_
  (repeat refine DX_seq ?_); refine ifx ?_ ?_
  · intro hc; (try simp only [hcs, ne_eq] at hc)
    have hm := half_lt (i := i) (j := j) (by omega)
    have e1 : ((i : Int) + (j : Int)) % 18446744073709551616 = (i : Int) + (j : Int) := by omega
    have e2 : ((i : Int) + (j : Int)) / 2 ^ 1 = (((i + j) / 2 : Nat) : Int) := by rw [show ((2 : Int) ^ 1) = 2 from rfl]; omega
    have hl := hP ((i + j) / 2) (by omega)
    have hcm := ordS_neg (b.getD ((i + j) / 2) gz) g
    rw [hl] at hcm
    obtain ⟨x, hx⟩ : ∃ x, b.getD ((i + j) / 2) gz = x := ⟨_, rfl⟩
    rw [hx] at hcm
    obtain ⟨c, hcc⟩ : ∃ c, (i + j) / 2 = c := ⟨_, rfl⟩
    rw [hcc] at hcm hm hx e2
    (repeat refine DX_seq ?_); refine DX_skip ?_
    (repeat refine DX_seq ?_); refine DX_block ?_
    have hX := And.intro bkD_eq (And.intro e1 (And.intro e2 (And.intro hx (hcm))))
    have hK := And.intro (order_c x g) trivial; (repeat refine DX_seq ?_); refine rgx [0, 2, 4, 8, 9, 10, 11] ?_
    (repeat refine DX_seq ?_); refine rqx [0, 2, 4, 8, 9, 10, 11, 31] ?_
    (repeat refine DX_seq ?_); refine ifx ?_ ?_
    · intro hc2; have hc2 : c < p := by simpa using hc2
      (repeat refine DX_seq ?_); refine rgx [0, 2, 4, 8, 9, 10] ?_
      refine ⟨_, j - (c + 1), WeakX.pick [0, 2, 4, 8, 9, 10], by omega, c + 1, j, by omega, by omega, by omega, by omega, ?_⟩
      refine pk1 ?_; rfl
    · intro hc2; have hc2 : ¬ c < p := by simpa using hc2
      (repeat refine DX_seq ?_); refine rgx [0, 2, 4, 8, 9, 10] ?_
      refine ⟨_, c - i, WeakX.pick [0, 2, 4, 8, 9, 10], by omega, i, c, by omega, by omega, by omega, by omega, ?_⟩
      refine pk1 ?_; rfl
  · intro hc; (try simp only [hcs, ne_eq] at hc)
    obtain rfl : i = p := by omega
    obtain rfl : j = i := by omega
    (repeat refine DX_seq ?_); refine DX_exit ?_
    unfold serD
    by_cases h0 : j < b.length
    · have d0 : decide ((j : Int) < (b.length : Int)) = true := decide_eq_true (by omega)
      obtain ⟨x, hx⟩ : ∃ x, b.getD j gz = x := ⟨_, rfl⟩
      have hX := And.intro bkD_eq (And.intro hx (And.intro d0 (Bool.true_and)))
      rw [hx, d0, Bool.true_and]
      have hK := And.intro (order_c x g) trivial; (repeat refine DX_seq ?_); refine rqgx [6, 7] ?_
      (repeat refine DX_seq ?_); refine DX_ret ?_; refine retx ?_; (try dsimp only [outV, unlist])
      exact Fin_pure rfl
    · have d0 : decide ((j : Int) < (b.length : Int)) = false := decide_eq_false (by omega)
      have hX := And.intro bkD_eq (And.intro d0 (Bool.false_and))
      rw [d0, Bool.false_and]
      (repeat refine DX_seq ?_); refine rqgx [6, 7] ?_
      (repeat refine DX_seq ?_); refine DX_ret ?_; refine retx ?_; (try dsimp only [outV, unlist])
      exact Fin_pure rfl
end Go.Proofs.YtedioenakmgdiaaDoor

namespace Go.Proofs.YtedioenakmgdiaaDoor
set_option linter.unusedSimpArgs false
set_option linter.unusedVariables false
set_option maxRecDepth 10000
open Go.RowKit
def overB (x g : Gr) : Bool := decide (x.sv = g.sv) && (decide (x.fr ≤ g.un) && decide (g.fr ≤ x.un))
/-- how many stand ahead of it -/
def posN (b : List Gr) (g : Gr) : Nat := b.findIdx (fun x => !lessB x g)
def twB (b : List Gr) (g : Gr) : Bool := (decide (0 < posN b g) && !apartB (b.getD (posN b g - 1) gz) g) || (decide (posN b g < b.length) && !apartB g (b.getD (posN b g) gz))
def insS (b : List Gr) (g : Gr) : List Gr := b.take (posN b g) ++ g :: b.drop (posN b g)
def addGs (b : List Gr) (g : Gr) : List Gr := if chkS b = 0 then (if rightB g = true then (if b.length = 256 then b else if twB b g = true then b else insS b g) else b) else []
def addE (b : List Gr) (g : Gr) : Int := if chkS b = 0 then (if rightB g = true then (if b.length = 256 then 8 else if twB b g = true then 4 else 0) else 2) else 2
theorem right_le {g : Gr} (h : rightB g = true) : 0 ≤ g.sv ∧ g.sv ≤ 63 ∧ 0 ≤ g.fr ∧ g.fr ≤ g.un ∧ g.un ≤ 1099511627776 ∧ 0 ≤ g.hi ∧ g.hi ≤ 7 := by
  unfold rightB at h
  simp only [Bool.and_eq_true, decide_eq_true_eq] at h
  omega
theorem apart_iff {a b : Gr} : apartB a b = true ↔ (a.sv < b.sv ∨ (a.sv = b.sv ∧ a.un < b.fr)) := by unfold apartB; simp
theorem apart_no {a b : Gr} : apartB a b = false ↔ (b.sv ≤ a.sv ∧ (a.sv = b.sv → b.fr ≤ a.un)) := by
  unfold apartB
  simp only [Bool.or_eq_false_iff, Bool.and_eq_false_iff, decide_eq_false_iff_not]
  omega
theorem less_iff {a b : Gr} : lessB a b = true ↔ (a.sv < b.sv ∨ (a.sv = b.sv ∧ a.fr < b.fr)) := by unfold lessB; simp
theorem over_iff {x g : Gr} : overB x g = true ↔ (x.sv = g.sv ∧ x.fr ≤ g.un ∧ g.fr ≤ x.un) := by unfold overB; simp
theorem good_le {b : List Gr} : ∀ {k n : Nat}, k ≤ n → goodN b n = true → goodN b k = true
  | k, 0, hk, h => by have : k = 0 := by omega
                      subst this; rfl
  | k, n + 1, hk, h => by
    rcases Nat.lt_or_eq_of_le hk with h1 | rfl
    · rw [goodN, Bool.and_eq_true] at h
      exact good_le (by omega) h.1
    · exact h
theorem good_right {b : List Gr} (h : goodN b b.length = true) {k : Nat} (hk : k < b.length) : rightB (b.getD k gz) = true := by
  have h1 := good_le (k := k + 1) hk h
  rw [goodN, Bool.and_eq_true, Bool.and_eq_true] at h1
  exact h1.2.1
theorem good_next {b : List Gr} (h : goodN b b.length = true) {k : Nat} (hk : k + 1 < b.length) : apartB (b.getD k gz) (b.getD (k + 1) gz) = true := by
  have h1 := good_le (k := k + 2) hk h
  rw [goodN, Bool.and_eq_true, Bool.and_eq_true, Bool.or_eq_true] at h1
  rcases h1.2.2 with h2 | h2
  · simp at h2
  · simpa using h2
theorem good_apart {b : List Gr} (h : goodN b b.length = true) {i : Nat} : ∀ {j : Nat}, i < j → j < b.length → apartB (b.getD i gz) (b.getD j gz) = true
  | 0, hi, _ => by omega
  | j + 1, hi, hj => by
    have h1 := good_next h hj
    rcases Nat.lt_or_eq_of_le (Nat.le_of_lt_succ hi) with h2 | rfl
    · have h3 := good_apart h h2 (by omega)
      have h4 := right_le (good_right h (k := j) (by omega))
      rw [apart_iff] at h1 h3 ⊢
      omega
    · exact h1
theorem less_down {b : List Gr} (h : goodN b b.length = true) {g : Gr} {i j : Nat} (hi : i ≤ j) (hj : j < b.length) (hl : lessB (b.getD j gz) g = true) : lessB (b.getD i gz) g = true := by
  rcases Nat.lt_or_eq_of_le hi with h2 | rfl
  · have h3 := good_apart h h2 hj
    have h4 := right_le (good_right h (k := i) (by omega))
    rw [less_iff] at hl ⊢
    rw [apart_iff] at h3
    omega
  · exact hl
theorem posN_le (b : List Gr) (g : Gr) : posN b g ≤ b.length := List.findIdx_le_length
theorem posN_spec {b : List Gr} (h : goodN b b.length = true) (g : Gr) : ∀ k, k < b.length → lessB (b.getD k gz) g = decide (k < posN b g) := fun k hk => by
  by_cases h1 : k < posN b g
  · rw [decide_eq_true h1]
    have := List.not_of_lt_findIdx (p := fun x => !lessB x g) (xs := b) h1
    simp only [Bool.not_eq_true', Bool.not_eq_false'] at this
    rw [List.getD_eq_getElem?_getD, List.getElem?_eq_getElem hk]
    simpa using this
  · rw [decide_eq_false h1]
    have hp : posN b g < b.length := by omega
    have h2 := List.findIdx_getElem (p := fun x => !lessB x g) (xs := b) (w := hp)
    have h3 : lessB (b.getD (posN b g) gz) g = false := by
      rw [List.getD_eq_getElem?_getD, List.getElem?_eq_getElem hp]
      have h2' : lessB b[List.findIdx (fun x => !lessB x g) b] g = false := by simpa using h2
      exact h2'
    cases h4 : lessB (b.getD k gz) g with
    | false => rfl
    | true =>
      have := less_down h (i := posN b g) (by omega) hk h4
      rw [h3] at this
      cases this
theorem tw_iff {b : List Gr} (h : goodN b b.length = true) {g : Gr} (hg : rightB g = true) : twB b g = true ↔ ∃ k, k < b.length ∧ overB (b.getD k gz) g = true := by
  have hP := posN_spec h g
  have hle := posN_le b g
  have hgr := right_le hg
  unfold twB
  simp only [Bool.or_eq_true, Bool.and_eq_true, decide_eq_true_eq, Bool.not_eq_true', apart_no]
  constructor
  · rintro (⟨h1, h2, h3⟩ | ⟨h1, h2, h3⟩)
    · refine ⟨posN b g - 1, by omega, ?_⟩
      have h4 := hP (posN b g - 1) (by omega)
      rw [decide_eq_true (by omega), less_iff] at h4
      rw [over_iff]
      omega
    · refine ⟨posN b g, h1, ?_⟩
      have h4 := hP (posN b g) h1
      rw [decide_eq_false (by omega)] at h4
      have h5 : ¬ ((b.getD (posN b g) gz).sv < g.sv ∨ ((b.getD (posN b g) gz).sv = g.sv ∧ (b.getD (posN b g) gz).fr < g.fr)) := fun h6 => by rw [less_iff.2 h6] at h4; cases h4
      have h6 := right_le (good_right h h1)
      rw [over_iff]
      omega
  · rintro ⟨k, hk, ho⟩
    rw [over_iff] at ho
    have h4 := hP k hk
    by_cases hkp : k < posN b g
    · left
      rw [decide_eq_true hkp, less_iff] at h4
      have h5 := hP (posN b g - 1) (by omega)
      rw [decide_eq_true (by omega), less_iff] at h5
      refine ⟨by omega, ?_⟩
      rcases Nat.lt_or_eq_of_le (show k ≤ posN b g - 1 by omega) with h6 | h6
      · have h7 := good_apart h h6 (by omega)
        rw [apart_iff] at h7
        omega
      · rw [← h6]
        omega
    · right
      rw [decide_eq_false hkp] at h4
      have h5 : ¬ ((b.getD k gz).sv < g.sv ∨ ((b.getD k gz).sv = g.sv ∧ (b.getD k gz).fr < g.fr)) := fun h6 => by rw [less_iff.2 h6] at h4; cases h4
      refine ⟨by omega, ?_⟩
      rcases Nat.lt_or_eq_of_le (show posN b g ≤ k by omega) with h6 | h6
      · have h7 := good_apart h h6 hk
        have h8 := hP (posN b g) (by omega)
        rw [decide_eq_false (by omega)] at h8
        have h9 : ¬ ((b.getD (posN b g) gz).sv < g.sv ∨ ((b.getD (posN b g) gz).sv = g.sv ∧ (b.getD (posN b g) gz).fr < g.fr)) := fun h10 => by rw [less_iff.2 h10] at h8; cases h8
        have h10 := right_le (good_right h (k := posN b g) (by omega))
        rw [apart_iff] at h7
        omega
      · rw [h6]
        omega
theorem chk_good {b : List Gr} (h : chkS b = 0) : b.length ≤ 256 ∧ goodN b b.length = true := by
  unfold chkS at h
  by_cases h1 : 256 < b.length
  · rw [if_pos h1] at h; cases h
  · rw [if_neg h1] at h
    refine ⟨by omega, ?_⟩
    cases h2 : goodN b b.length with
    | true => rfl
    | false => rw [h2] at h; simp at h
end Go.Proofs.YtedioenakmgdiaaDoor

namespace Go.Proofs.YtedioenakmgdiaaDoor
set_option linter.unusedSimpArgs false
set_option linter.unusedVariables false
set_option maxRecDepth 10000
open Go.RowKit
/-- a book, and why there is none -/
def beD (b : List Gr) (e : Int) : D := .tup (.cons (bkD b) (.cons (iD e) .nil))
theorem addGs_no {b : List Gr} {g : Gr} (h : chkS b ≠ 0) : addGs b g = [] := by unfold addGs; rw [if_neg h]
theorem addE_no {b : List Gr} {g : Gr} (h : chkS b ≠ 0) : addE b g = 2 := by unfold addE; rw [if_neg h]
theorem chk_two {b : List Gr} (h : chkS b ≠ 0) : chkS b = 2 := by
  unfold chkS at h ⊢
  by_cases h1 : 256 < b.length
  · rw [if_pos h1]
  · rw [if_neg h1] at h ⊢
    by_cases h2 : goodN b b.length = true
    · rw [if_pos h2] at h; exact absurd rfl h
    · rw [if_neg h2]
theorem ins_len (b : List Gr) (g : Gr) : (insS b g).length = b.length + 1 := by
  unfold insS
  have := posN_le b g
  simp
  omega
theorem Fin_row {h : List (Option Bk)} {l n T sz : Nat} {b : List Gr} (hl : h[l]? = some (some (.row (b.map grD) T sz))) (hn : n = b.length) : Fin h (.own l n T sz) (bkD b) := by
  subst hn
  exact Fin_elems (es := (b.map grD).take b.length) (p := b.length ≤ (b.map grD).length) rfl (by simp only [elems, hl]) (by simp) (List.take_of_length_le (by simp)) (fun _ => rfl)
theorem Le_row {h : List (Option Bk)} {l n T sz : Nat} {b : List Gr} (hl : h[l]? = some (some (.row (b.map grD) T sz))) (hn : n = b.length) : Le h (.own l n T sz) (bkD b) := by
  subst hn
  exact Le_elems (es := (b.map grD).take b.length) (p := b.length ≤ (b.map grD).length) (by simp only [elems, hl]) (by simp) (List.take_of_length_le (by simp)) (fun _ => rfl)
theorem fin_be {h : List (Option Bk)} {l n T sz : Nat} {b : List Gr} {e : Int} (hl : h[l]? = some (some (.row (b.map grD) T sz))) (hn : n = b.length) : Fin h (.tup (.cons (.own l n T sz) (.cons (iD e) .nil))) (beD b e) := Fin_tup (.cons rfl rfl (Fin_row hl hn) (.cons rfl rfl (Fin_pure rfl) .nil))
theorem row_get (b : List Gr) {k : Nat} (h : k < b.length) : (b.map grD).getD k .dead = grD (b.getD k gz) := by
  simp [List.getD_eq_getElem?_getD, h]
set_option maxHeartbeats 16000000 in
theorem bkadd_c (b : List Gr) (g : Gr) : PC (envOf Tryd.prog) 44 [bkD b, grD g] (beD (addGs b g) (addE b g)) := by
  by_cases hc : chkS b = 0
  · obtain ⟨hl, hgd⟩ := chk_good hc
    have kc := check_c b
    rw [hc] at kc
    have kr := right_c g
    have hle := posN_le b g
    have ks := search_c b g (posN b g) hl hle (posN_spec hgd g)
    have ki := insert_c b g (posN b g) hle hl
    have hin : b.take (posN b g) ++ g :: b.drop (posN b g) = insS b g := rfl
    rw [hin] at ki
    have hil := ins_len b g
    have hsr : ∃ q, serD b g (posN b g) = .tup (.cons (iD (posN b g : Int)) (.cons (bD q) .nil)) := ⟨_, rfl⟩
    obtain ⟨q, hq⟩ := hsr
    rw [hq] at ks
    unfold addGs addE
    rw [if_pos hc, if_pos hc]
    unfold twB
    generalize insS b g = ib at *
    generalize posN b g = p at *
    have hX := and_true; refine PC_atX Tryd.func44 rfl Tryd.ntmps44 Tryd.results44 rfl (by simp only [argsL, Nat.reduceAdd, u32D, u8D, iD, bD, strD, u32_xor, u32_or, u32_and, u32_add, u32_not, u32_shr, u32_shl, u8_u32, u32_u8]; exact rfl) ?_; intro w0 A
    have hX := And.intro bkD_eq (And.intro grD_eq (and_true))
    have hK := And.intro (kc) trivial; (repeat refine DX_seq ?_); refine rgx [0, 3] ?_
    (repeat refine DX_seq ?_); refine rgx [0, 3, 6] ?_
    (repeat refine DX_seq ?_); refine rgx [0, 3, 6, 13] ?_
    (repeat refine DX_seq ?_); refine iffx ?_
    (repeat refine DX_seq ?_); refine DX_skip ?_
    (repeat refine DX_seq ?_); refine DX_reg [0, 3, 7] ?_; intro w0 A S0 f0
    iterate 1 ((with_reducible show DR _ _ _ (_ :: _) _); first | (refine cx _ (envG _ _ _ _ _ _) rfl rfl rfl rfl rfl ?_ (hc := by first | exact kc))  | (refine sx ?_))
    refine ex rfl (docalln (envG _ _ _ _ _ _) rfl rfl rfl (hc := clone_c b hl) (hx := by simp only [Array.toList_append, List.cons_append, List.nil_append, byteD, implies_true, setD, bslF, buildF, buildL, List.zip_cons_cons, List.zip_nil_right, List.zip_nil_left, pureD, rng0, rng1, rng2, rng3, rng4, rng5, rng6, rng7, rng8, List.getD_cons_zero, List.getD_cons_succ, Nat.reduceLeDiff, decide_true, decide_false, List.all_cons, List.all_nil, dqF, nilF, callQ, argsD, Op.operands, Call.operands, evD, cD, gip, upd, look, List.map, List.map_cons, List.map_nil, binF, binI, shI, binS, unF, wD, kLo, kHi, kMod, kBits, convF, loadF, fieldF, faddrF, indexF, iaddrF, lenF, lenD, sliceF, sliceF3, minF, sliceD, cutL, bndF, sub, nc, aggT, aggB, scB, tnth, elems, L_B, L_mk, List.getElem?_cons_zero, List.getElem?_cons_succ, reduceIte, reduceCtorEq, Option.isSome, List.toList_toArray, Nat.reduceAdd, Nat.reduceSub, Nat.reduceMul, Nat.reduceEqDiff, Nat.reduceLT, Nat.reduceBEq, mkF, mkG, Bool.and_true, Bool.true_and, Bool.and_false, Bool.false_and, beq_self_eq_true, mkC, Int.reduceToNat, Int.toNat_natCast, Int.reduceAdd, Int.reduceSub, Int.reduceMul, Nat.zero_add, Nat.add_zero, Nat.mul_one, and_true, true_and, Option.getD_some, Option.getD_none, ne_eq, not_true_eq_false, not_false_eq_true, decide_not, Bool.not_true, Bool.not_false, Int.reduceLT, Int.reduceLE, Int.reduceEq, Int.reduceNe, Int.reduceGT, Int.reduceGE, gt_iff_lt, ge_iff_le, Nat.reduceLT, Nat.reduceLeDiff, u32D, u8D, iD, bD, strD, u32_xor, u32_or, u32_and, u32_add, u32_not, u32_shr, u32_shl, u8_u32, u32_u8, envOf, tyT, gtab, hX] <;> exact rfl)) ?_
    (repeat ((with_reducible show DR _ _ _ (_ :: _) _); first | (refine cx _ (envG _ _ _ _ _ _) rfl rfl rfl rfl rfl ?_ (hc := by first | exact kc))  | (refine sx ?_))); refine DR_nil ?_; refine kl1 ?_
    (repeat refine DX_seq ?_); refine DX_block ?_
    cases hr : rightB g with
    | false =>
      rw [hr] at kr
      rw [if_neg (by decide), if_neg (by decide)]
      have hX := And.intro bkD_eq (And.intro grD_eq (Bool.not_false))
      have hK := And.intro (kr) trivial; (repeat refine DX_seq ?_); refine rgx [0, 3, 7, 17] ?_
      (repeat refine DX_seq ?_); refine iftx ?_
      (repeat refine DX_seq ?_); refine rgx [4, 5] ?_
      (repeat refine DX_seq ?_); refine DX_ret ?_; refine retx ?_; (try dsimp only [outV, unlist])
      exact fin_be rfl rfl
    | true =>
      rw [hr] at kr
      rw [if_pos rfl, if_pos rfl]
      have hX := And.intro bkD_eq (And.intro grD_eq (Bool.not_true))
      have hK := And.intro (kr) trivial; (repeat refine DX_seq ?_); refine rgx [0, 3, 7, 17] ?_
      (repeat refine DX_seq ?_); refine iffx ?_
      by_cases hf : b.length = 256
      · have d0 : decide ((b.length : Int) = 256) = true := decide_eq_true (by omega)
        rw [if_pos hf, if_pos hf]
        have hX := And.intro bkD_eq (d0)
        (repeat refine DX_seq ?_); refine rgx [3, 7, 22] ?_
        (repeat refine DX_seq ?_); refine iftx ?_
        (repeat refine DX_seq ?_); refine rgx [4, 5] ?_
        (repeat refine DX_seq ?_); refine DX_ret ?_; refine retx ?_; (try dsimp only [outV, unlist])
        exact fin_be rfl rfl
      · have d0 : decide ((b.length : Int) = 256) = false := decide_eq_false (by omega)
        rw [if_neg hf, if_neg hf]
        have hX := And.intro bkD_eq (d0)
        (repeat refine DX_seq ?_); refine rgx [3, 7, 22] ?_
        (repeat refine DX_seq ?_); refine iffx ?_
        (repeat refine DX_seq ?_); refine DX_skip ?_
        have hX := And.intro grD_eq (and_true)
        (repeat refine DX_seq ?_); refine DX_reg [3, 7, 8] ?_; intro w0 A S0 f0
        iterate 2 ((with_reducible show DR _ _ _ (_ :: _) _); first | (refine cx _ (envG _ _ _ _ _ _) rfl rfl rfl rfl rfl ?_ (hc := by first | exact kr))  | (refine sx ?_))
        refine clx _ (envG _ _ _ _ _ _) (ys := [bkD b, grD g, .fn 82 .nil]) (.cons (Le_row rfl rfl) (.cons (LeP.refl rfl).le (.cons (LeP.refl rfl).le .nil))) ks rfl rfl rfl rfl rfl rfl ?_
        (repeat ((with_reducible show DR _ _ _ (_ :: _) _); first | (refine cx _ (envG _ _ _ _ _ _) rfl rfl rfl rfl rfl ?_ (hc := by first | exact kr))  | (refine sx ?_))); refine DR_nil ?_; refine kl1 ?_
        have i1 : p * 36 / 36 = p := by omega
        have i2 : p * 36 % 36 = 0 := by omega
        have i3 : (p - 1) * 36 / 36 = p - 1 := by omega
        have i4 : (p - 1) * 36 % 36 = 0 := by omega
        by_cases h0 : 0 < p
        · have d1 : decide (0 < p) = true := decide_eq_true h0
          have e1 : decide ((0 : Int) < (p : Int)) = true := decide_eq_true (by omega)
          have hpm : ((p : Int) - 1).toNat = p - 1 := by omega
          have g1 := row_get b (k := p - 1) (by omega)
          obtain ⟨x, hx⟩ : ∃ x, b.getD (p - 1) gz = x := ⟨_, rfl⟩
          rw [hx] at g1
          have k1 := apart_c x g
          cases ha1 : apartB x g with
          | false =>
            rw [ha1] at k1
            simp only [d1, hx, ha1, Bool.not_false, Bool.and_true, Bool.true_or]
            have hX := And.intro grD_eq (And.intro e1 (And.intro hpm (And.intro g1 (And.intro i3 (And.intro i4 (Bool.not_false))))))
            have hK := And.intro (k1) trivial; (repeat refine DX_seq ?_); refine rqgx [3, 7, 8, 59] ?_
            rw [if_pos (by first | rfl | decide), if_pos (by first | rfl | decide)]
            (repeat refine DX_seq ?_); refine iftx ?_
            (repeat refine DX_seq ?_); refine rgx [4, 5] ?_
            (repeat refine DX_seq ?_); refine DX_ret ?_; refine retx ?_; (try dsimp only [outV, unlist])
            exact fin_be rfl rfl
          | true =>
            rw [ha1] at k1
            by_cases h2 : p < b.length
            · have d2 : decide (p < b.length) = true := decide_eq_true h2
              have e2 : decide ((p : Int) < (b.length : Int)) = true := decide_eq_true (by omega)
              have g2 := row_get b h2
              obtain ⟨y, hy⟩ : ∃ y, b.getD p gz = y := ⟨_, rfl⟩
              rw [hy] at g2
              have k2 := apart_c g y
              cases ha2 : apartB g y with
              | false =>
                rw [ha2] at k2
                simp only [d1, hx, ha1, d2, hy, ha2, Bool.not_false, Bool.not_true, Bool.and_true, Bool.and_false, Bool.true_and, Bool.false_and, Bool.or_true, Bool.or_false, Bool.true_or, Bool.false_or]
                have hX := And.intro grD_eq (And.intro e1 (And.intro hpm (And.intro g1 (And.intro i3 (And.intro i4 (And.intro e2 (And.intro g2 (And.intro i1 (And.intro i2 (And.intro Bool.not_true (Bool.not_false)))))))))))
                have hK := And.intro (k1) (And.intro (k2) trivial); (repeat refine DX_seq ?_); refine rqgx [3, 7, 8, 59] ?_
                rw [if_pos (by first | rfl | decide), if_pos (by first | rfl | decide)]
                (repeat refine DX_seq ?_); refine iftx ?_
                (repeat refine DX_seq ?_); refine rgx [4, 5] ?_
                (repeat refine DX_seq ?_); refine DX_ret ?_; refine retx ?_; (try dsimp only [outV, unlist])
                exact fin_be rfl rfl
              | true =>
                rw [ha2] at k2
                simp only [d1, hx, ha1, d2, hy, ha2, Bool.not_false, Bool.not_true, Bool.and_true, Bool.and_false, Bool.true_and, Bool.false_and, Bool.or_true, Bool.or_false, Bool.true_or, Bool.false_or]
                have hX := And.intro grD_eq (And.intro e1 (And.intro hpm (And.intro g1 (And.intro i3 (And.intro i4 (And.intro e2 (And.intro g2 (And.intro i1 (And.intro i2 (And.intro Bool.not_true (Bool.not_false)))))))))))
                have hK := And.intro (k1) (And.intro (k2) trivial); (repeat refine DX_seq ?_); refine rqgx [3, 7, 8, 59] ?_
                rw [if_neg (by decide), if_neg (by decide)]
                (repeat refine DX_seq ?_); refine iffx ?_
                (repeat refine DX_seq ?_); refine DX_skip ?_
                have hX := And.intro grD_eq (and_true)
                (repeat refine DX_seq ?_); refine DX_reg [4, 5] ?_; intro w0 A S0 f0
                iterate 4 ((with_reducible show DR _ _ _ (_ :: _) _); first | (refine cx _ (envG _ _ _ _ _ _) rfl rfl rfl rfl rfl ?_ (hc := by first | fail))  | (refine sx ?_))
                refine ex rfl (docallr1 (envG _ _ _ _ _ _) ki (by intro h; rw [List.map_eq_nil_iff] at h; rw [h] at hil; simp at hil) rfl rfl rfl rfl) ?_
                (repeat ((with_reducible show DR _ _ _ (_ :: _) _); first | (refine cx _ (envG _ _ _ _ _ _) rfl rfl rfl rfl rfl ?_ (hc := by first | fail))  | (refine sx ?_))); refine DR_nil ?_; refine kl1 ?_
                (repeat refine DX_seq ?_); refine DX_ret ?_; refine retx ?_; (try dsimp only [outV, unlist])
                exact fin_be rfl hil.symm
            · have d2 : decide (p < b.length) = false := decide_eq_false h2
              have e2 : decide ((p : Int) < (b.length : Int)) = false := decide_eq_false (by omega)
              simp only [d1, hx, ha1, d2, Bool.not_false, Bool.not_true, Bool.and_true, Bool.and_false, Bool.true_and, Bool.false_and, Bool.or_true, Bool.or_false, Bool.true_or, Bool.false_or]
              have hX := And.intro grD_eq (And.intro e1 (And.intro hpm (And.intro g1 (And.intro i3 (And.intro i4 (And.intro e2 (And.intro Bool.not_true (Bool.not_false))))))))
              have hK := And.intro (k1) trivial; (repeat refine DX_seq ?_); refine rqgx [3, 7, 8, 59] ?_
              rw [if_neg (by decide), if_neg (by decide)]
              (repeat refine DX_seq ?_); refine iffx ?_
              (repeat refine DX_seq ?_); refine DX_skip ?_
              have hX := And.intro grD_eq (and_true)
              (repeat refine DX_seq ?_); refine DX_reg [4, 5] ?_; intro w0 A S0 f0
              iterate 4 ((with_reducible show DR _ _ _ (_ :: _) _); first | (refine cx _ (envG _ _ _ _ _ _) rfl rfl rfl rfl rfl ?_ (hc := by first | fail))  | (refine sx ?_))
              refine ex rfl (docallr1 (envG _ _ _ _ _ _) ki (by intro h; rw [List.map_eq_nil_iff] at h; rw [h] at hil; simp at hil) rfl rfl rfl rfl) ?_
              (repeat ((with_reducible show DR _ _ _ (_ :: _) _); first | (refine cx _ (envG _ _ _ _ _ _) rfl rfl rfl rfl rfl ?_ (hc := by first | fail))  | (refine sx ?_))); refine DR_nil ?_; refine kl1 ?_
              (repeat refine DX_seq ?_); refine DX_ret ?_; refine retx ?_; (try dsimp only [outV, unlist])
              exact fin_be rfl hil.symm
        · have d1 : decide (0 < p) = false := decide_eq_false h0
          have e1 : decide ((0 : Int) < (p : Int)) = false := decide_eq_false (by omega)
          by_cases h2 : p < b.length
          · have d2 : decide (p < b.length) = true := decide_eq_true h2
            have e2 : decide ((p : Int) < (b.length : Int)) = true := decide_eq_true (by omega)
            have g2 := row_get b h2
            obtain ⟨y, hy⟩ : ∃ y, b.getD p gz = y := ⟨_, rfl⟩
            rw [hy] at g2
            have k2 := apart_c g y
            cases ha2 : apartB g y with
            | false =>
              rw [ha2] at k2
              simp only [d1, d2, hy, ha2, Bool.not_false, Bool.not_true, Bool.and_true, Bool.and_false, Bool.true_and, Bool.false_and, Bool.or_true, Bool.or_false, Bool.true_or, Bool.false_or]
              have hX := And.intro grD_eq (And.intro e1 (And.intro e2 (And.intro g2 (And.intro i1 (And.intro i2 (And.intro Bool.not_true (Bool.not_false)))))))
              have hK := And.intro (k2) trivial; (repeat refine DX_seq ?_); refine rqgx [3, 7, 8, 59] ?_
              rw [if_pos (by first | rfl | decide), if_pos (by first | rfl | decide)]
              (repeat refine DX_seq ?_); refine iftx ?_
              (repeat refine DX_seq ?_); refine rgx [4, 5] ?_
              (repeat refine DX_seq ?_); refine DX_ret ?_; refine retx ?_; (try dsimp only [outV, unlist])
              exact fin_be rfl rfl
            | true =>
              rw [ha2] at k2
              simp only [d1, d2, hy, ha2, Bool.not_false, Bool.not_true, Bool.and_true, Bool.and_false, Bool.true_and, Bool.false_and, Bool.or_true, Bool.or_false, Bool.true_or, Bool.false_or]
              have hX := And.intro grD_eq (And.intro e1 (And.intro e2 (And.intro g2 (And.intro i1 (And.intro i2 (And.intro Bool.not_true (Bool.not_false)))))))
              have hK := And.intro (k2) trivial; (repeat refine DX_seq ?_); refine rqgx [3, 7, 8, 59] ?_
              rw [if_neg (by decide), if_neg (by decide)]
              (repeat refine DX_seq ?_); refine iffx ?_
              (repeat refine DX_seq ?_); refine DX_skip ?_
              have hX := And.intro grD_eq (and_true)
              (repeat refine DX_seq ?_); refine DX_reg [4, 5] ?_; intro w0 A S0 f0
              iterate 4 ((with_reducible show DR _ _ _ (_ :: _) _); first | (refine cx _ (envG _ _ _ _ _ _) rfl rfl rfl rfl rfl ?_ (hc := by first | fail))  | (refine sx ?_))
              refine ex rfl (docallr1 (envG _ _ _ _ _ _) ki (by intro h; rw [List.map_eq_nil_iff] at h; rw [h] at hil; simp at hil) rfl rfl rfl rfl) ?_
              (repeat ((with_reducible show DR _ _ _ (_ :: _) _); first | (refine cx _ (envG _ _ _ _ _ _) rfl rfl rfl rfl rfl ?_ (hc := by first | fail))  | (refine sx ?_))); refine DR_nil ?_; refine kl1 ?_
              (repeat refine DX_seq ?_); refine DX_ret ?_; refine retx ?_; (try dsimp only [outV, unlist])
              exact fin_be rfl hil.symm
          · have d2 : decide (p < b.length) = false := decide_eq_false h2
            have e2 : decide ((p : Int) < (b.length : Int)) = false := decide_eq_false (by omega)
            simp only [d1, d2, Bool.not_false, Bool.not_true, Bool.and_true, Bool.and_false, Bool.true_and, Bool.false_and, Bool.or_true, Bool.or_false, Bool.true_or, Bool.false_or]
            have hX := And.intro grD_eq (And.intro e1 (And.intro e2 (And.intro Bool.not_true (Bool.not_false))))
            (repeat refine DX_seq ?_); refine rqgx [3, 7, 8, 59] ?_
            rw [if_neg (by decide), if_neg (by decide)]
            (repeat refine DX_seq ?_); refine iffx ?_
            (repeat refine DX_seq ?_); refine DX_skip ?_
            have hX := And.intro grD_eq (and_true)
            (repeat refine DX_seq ?_); refine DX_reg [4, 5] ?_; intro w0 A S0 f0
            iterate 4 ((with_reducible show DR _ _ _ (_ :: _) _); first | (refine cx _ (envG _ _ _ _ _ _) rfl rfl rfl rfl rfl ?_ (hc := by first | fail))  | (refine sx ?_))
            refine ex rfl (docallr1 (envG _ _ _ _ _ _) ki (by intro h; rw [List.map_eq_nil_iff] at h; rw [h] at hil; simp at hil) rfl rfl rfl rfl) ?_
            (repeat ((with_reducible show DR _ _ _ (_ :: _) _); first | (refine cx _ (envG _ _ _ _ _ _) rfl rfl rfl rfl rfl ?_ (hc := by first | fail))  | (refine sx ?_))); refine DR_nil ?_; refine kl1 ?_
            (repeat refine DX_seq ?_); refine DX_ret ?_; refine retx ?_; (try dsimp only [outV, unlist])
            exact fin_be rfl hil.symm
  · have kc := check_c b
    rw [chk_two hc] at kc
    rw [addGs_no hc, addE_no hc]
    have hX := and_true; refine PC_atX Tryd.func44 rfl Tryd.ntmps44 Tryd.results44 rfl (by simp only [argsL, Nat.reduceAdd, u32D, u8D, iD, bD, strD, u32_xor, u32_or, u32_and, u32_add, u32_not, u32_shr, u32_shl, u8_u32, u32_u8]; exact rfl) ?_; intro w0 A
    have hX := And.intro bkD_eq (And.intro grD_eq (Bool.not_false))
    have hK := And.intro (kc) trivial; (repeat refine DX_seq ?_); refine rgx [0, 3] ?_
    (repeat refine DX_seq ?_); refine rgx [0, 3, 6] ?_
    (repeat refine DX_seq ?_); refine rgx [0, 3, 6, 13] ?_
    (repeat refine DX_seq ?_); refine iftx ?_
    (repeat refine DX_seq ?_); refine rgx [4, 5] ?_
    (repeat refine DX_seq ?_); refine DX_ret ?_; refine retx ?_; (try dsimp only [outV, unlist])
    exact Fin_tup (.cons rfl rfl Fin_nil (.cons rfl rfl (Fin_pure rfl) .nil))
end Go.Proofs.YtedioenakmgdiaaDoor

namespace Go.Proofs.YtedioenakmgdiaaDoor
set_option linter.unusedSimpArgs false
set_option linter.unusedVariables false
set_option maxRecDepth 10000
open Go.RowKit
theorem Le_fn {h : List (Option Bk)} {f : FuncId} {cs cs' : List D} (h1 : cs.all scB = true) (h2 : cs'.all scB = true) (hle : All2 (Le h) cs cs') : Le h (.fn f (listD cs)) (.fn f (listD cs')) := fun C w bs x hw hx => by
  have hx' : R1 C w bs x (.fn f (listD cs)) := hx
  show RI w _ x (.fn f (listD cs'))
  obtain ⟨n1, g1⟩ := nc_listD cs (fun d hd => List.all_eq_true.1 h1 d hd)
  obtain ⟨n2, g2⟩ := nc_listD cs' (fun d hd => List.all_eq_true.1 h2 d hd)
  obtain ⟨hlen, hget⟩ := All2.get hle
  cases hx' with
  | im hi => cases hi with
    | @fn _ vs _ hn hc =>
      refine .fn (by rw [hn, n1, n2, hlen]) fun i hi => ?_
      have hi1 : i < cs.length := by rw [hn, n1] at hi; exact hi
      have hi2 : i < cs'.length := hlen ▸ hi1
      have k1 := hc i hi
      rw [g1 i hi1] at k1
      rw [g2 i hi2]
      exact (RV_sc (List.all_eq_true.1 h2 _ (List.getElem_mem hi2))).1 (hget i hi1 hi2 C w bs vs[i] hw ((RV_sc (List.all_eq_true.1 h1 _ (List.getElem_mem hi1))).2 (.im k1)))
  | @fn _ vs _ hn hc =>
    refine .fn (by rw [hn, n1, n2, hlen]) fun i hi => ?_
    have hi1 : i < cs.length := by rw [hn, n1] at hi; exact hi
    have hi2 : i < cs'.length := hlen ▸ hi1
    have k1 := hc i hi
    rw [g1 i hi1] at k1
    rw [g2 i hi2]
    exact (RV_sc (List.all_eq_true.1 h2 _ (List.getElem_mem hi2))).1 (hget i hi1 hi2 C w bs vs[i] hw ((RV_sc (List.all_eq_true.1 h1 _ (List.getElem_mem hi1))).2 k1))
section
variable {E : Env} {C : Cx} {ops : Array Oper} {K : St → Prop} {o : Oper} {rest : List Oper} {s : Nat → D} {h : List (Option Bk)} {f : FuncId} {g : Operand} {args : Array Operand} {ts : Array TypeId} {xs : List D} {d : D}
theorem cfx (cs : List D) (t : Nat) (hE : EnvC E C) (hg : o.guard = none) (hd : o.dst = some t) (ht' : Nat.blt t C.n = true) (ho : o.op = .call { callee := .value g, args := args, argTypes := ts }) (hf : fnB C.P f = true) (hc : PC E f (xs ++ cs) d) (hcs : cs.all scB = true) (hp : (xs ++ cs).all pureD = true) (k : DR C ops K rest ⟨upd s t d, h⟩)
    (e : argsD C ⟨s, h⟩ o = .fn f (listD cs) :: xs := by simp only [Array.toList_append, List.cons_append, List.nil_append, byteD, implies_true, setD, bslF, buildF, buildL, List.zip_cons_cons, List.zip_nil_right, List.zip_nil_left, pureD, rng0, rng1, rng2, rng3, rng4, rng5, rng6, rng7, rng8, List.getD_cons_zero, List.getD_cons_succ, Nat.reduceLeDiff, decide_true, decide_false, List.all_cons, List.all_nil, dqF, nilF, callQ, argsD, Op.operands, Call.operands, evD, cD, gip, upd, look, List.map, List.map_cons, List.map_nil, binF, binI, shI, binS, unF, wD, kLo, kHi, kMod, kBits, convF, loadF, fieldF, faddrF, indexF, iaddrF, lenF, lenD, sliceF, sliceF3, minF, sliceD, cutL, bndF, sub, nc, aggT, aggB, scB, tnth, elems, L_B, L_mk, List.getElem?_cons_zero, List.getElem?_cons_succ, reduceIte, reduceCtorEq, Option.isSome, List.toList_toArray, Nat.reduceAdd, Nat.reduceSub, Nat.reduceMul, Nat.reduceEqDiff, Nat.reduceLT, Nat.reduceBEq, mkF, mkG, Bool.and_true, Bool.true_and, Bool.and_false, Bool.false_and, beq_self_eq_true, mkC, Int.reduceToNat, Int.toNat_natCast, Int.reduceAdd, Int.reduceSub, Int.reduceMul, Nat.zero_add, Nat.add_zero, Nat.mul_one, and_true, true_and, Option.getD_some, Option.getD_none, ne_eq, not_true_eq_false, not_false_eq_true, decide_not, Bool.not_true, Bool.not_false, Int.reduceLT, Int.reduceLE, Int.reduceEq, Int.reduceNe, Int.reduceGT, Int.reduceGE, gt_iff_lt, ge_iff_le, Nat.reduceLT, Nat.reduceLeDiff, u32D, u8D, iD, bD, strD, u32_xor, u32_or, u32_and, u32_add, u32_not, u32_shr, u32_shl, u8_u32, u32_u8, envOf, tyT, gtab, hX] <;> exact rfl) : DR C ops K (o :: rest) ⟨s, h⟩ :=
  DR_c t hg hd ht' e (DQ_call hE (cs := cs) ho hf hcs (All2.reflP fun x hx' => LeP.refl (List.all_eq_true.1 hp x hx')) hc) k
end
end Go.Proofs.YtedioenakmgdiaaDoor
