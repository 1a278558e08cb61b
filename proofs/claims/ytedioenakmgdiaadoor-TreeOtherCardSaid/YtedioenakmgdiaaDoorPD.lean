/- The types and the package variables, as values stand for data. Printed by a program. Steps whose computing is left to an auto-parameter: short texts. More steps whose computing is left to an auto-parameter: guarded operations, arrays compared. Steps of walks in a mode, their computing left to auto-parameters. It speaks of no program of ours. What is handed back, part by part; pointers to own blocks that nobody writes any more. It speaks of no program of ours. The first own block is let go; nil in a part of a block. It speaks of no program of ours. Calls of functions that hand back own blocks of theirs. It speaks of no program of ours. An own row is let stand: from then on nobody writes it. Methods that write through their pointer, by contracts with own blocks. It speaks of no program of ours. -/
import Derived.Test.YtedioenakmgdiaaDoorPB
import Derived.Test.YtedioenakmgdiaaDoorProg
import Derived.Test.YtedioenakmgdiaaDoorPC
namespace Go.Proofs.YtedioenakmgdiaaDoor
open Go.RowKit

def kT : List UInt32 := [0x428a2f98, 0x71374491, 0xb5c0fbcf, 0xe9b5dba5, 0x3956c25b, 0x59f111f1, 0x923f82a4, 0xab1c5ed5, 0xd807aa98, 0x12835b01, 0x243185be, 0x550c7dc3, 0x72be5d74, 0x80deb1fe, 0x9bdc06a7, 0xc19bf174, 0xe49b69c1, 0xefbe4786, 0x0fc19dc6, 0x240ca1cc, 0x2de92c6f, 0x4a7484aa, 0x5cb0a9dc, 0x76f988da, 0x983e5152, 0xa831c66d, 0xb00327c8, 0xbf597fc7, 0xc6e00bf3, 0xd5a79147, 0x06ca6351, 0x14292967, 0x27b70a85, 0x2e1b2138, 0x4d2c6dfc, 0x53380d13, 0x650a7354, 0x766a0abb, 0x81c2c92e, 0x92722c85, 0xa2bfe8a1, 0xa81a664b, 0xc24b8b70, 0xc76c51a3, 0xd192e819, 0xd6990624, 0xf40e3585, 0x106aa070, 0x19a4c116, 0x1e376c08, 0x2748774c, 0x34b0bcb5, 0x391c0cb3, 0x4ed8aa4a, 0x5b9cca4f, 0x682e6ff3, 0x748f82ee, 0x78a5636f, 0x84c87814, 0x8cc70208, 0x90befffa, 0xa4506ceb, 0xbef9a3f7, 0xc67178f2]

def tyT : Nat → Option TE
  | 1 => some ⟨.other, 1, 8, (.v .nilFunc)⟩
  | 2 => some ⟨.int .i64, 1, 8, (.v (.int .i64 0))⟩
  | 3 => some ⟨.int .i64, 1, 8, (.v (.int .i64 0))⟩
  | 4 => some ⟨.bool, 1, 1, (.v (.bool false))⟩
  | 5 => some ⟨.int .u8, 1, 1, (.v (.int .u8 0))⟩
  | 9 => some ⟨.str, 1, 16, (.v (.string (B [])))⟩
  | 22 => some ⟨.slice 24, 1, 24, (.v (.slice none 0 0))⟩
  | 24 => some ⟨.array 32 5, 32, 32, (.arr .u8 32 (fun _ => 0))⟩
  | 25 => some ⟨.int .i64, 1, 8, (.v (.int .i64 0))⟩
  | 34 => some ⟨.other, 1, 8, (.v .nilFunc)⟩
  | 37 => some ⟨.slice 9, 1, 24, (.v (.slice none 0 0))⟩
  | 43 => some ⟨.struct [(9, 0), (3, 1), (3, 2)], 3, 32, (.cons (.v (.string (B []))) (.cons (.v (.int .i64 0)) (.cons (.v (.int .i64 0)) .nil)))⟩
  | 54 => some ⟨.ptr 100, 1, 8, (.v (.pointer none))⟩
  | 58 => some ⟨.struct [(43, 0), (22, 3)], 4, 56, (.cons (.cons (.v (.string (B []))) (.cons (.v (.int .i64 0)) (.cons (.v (.int .i64 0)) .nil))) (.cons (.v (.slice none 0 0)) .nil))⟩
  | 66 => some ⟨.slice 68, 1, 24, (.v (.slice none 0 0))⟩
  | 68 => some ⟨.struct [(3, 0), (2, 1), (2, 2), (3, 3), (24, 4)], 36, 64, (.cons (.v (.int .i64 0)) (.cons (.v (.int .i64 0)) (.cons (.v (.int .i64 0)) (.cons (.v (.int .i64 0)) (.cons (.arr .u8 32 (fun _ => 0)) .nil)))))⟩
  | 74 => some ⟨.slice 3, 1, 24, (.v (.slice none 0 0))⟩
  | 84 => some ⟨.struct [(22, 0), (34, 1)], 2, 32, (.cons (.v (.slice none 0 0)) (.cons (.v .nilFunc) .nil))⟩
  | 89 => some ⟨.int .u64, 1, 8, (.v (.int .u64 0))⟩
  | 90 => some ⟨.slice 5, 1, 24, (.v (.slice none 0 0))⟩
  | 92 => some ⟨.int .u32, 1, 4, (.v (.int .u32 0))⟩
  | 93 => some ⟨.array 8 92, 8, 32, (.arr .u32 8 (fun _ => 0))⟩
  | 95 => some ⟨.array 64 92, 64, 256, (.arr .u32 64 (fun _ => 0))⟩
  | 100 => some ⟨.struct [(43, 0), (22, 3), (24, 4)], 36, 88, (.cons (.cons (.v (.string (B []))) (.cons (.v (.int .i64 0)) (.cons (.v (.int .i64 0)) .nil))) (.cons (.v (.slice none 0 0)) (.cons (.arr .u8 32 (fun _ => 0)) .nil)))⟩
  | 117 => some ⟨.array 8 92, 8, 32, (.arr .u32 8 (fun _ => 0))⟩
  | 120 => some ⟨.int .u64, 1, 8, (.v (.int .u64 0))⟩
  | 134 => some ⟨.slice 92, 1, 24, (.v (.slice none 0 0))⟩
  | _ => none
theorem tT1 : tyT 1 = some ⟨.other, 1, 8, (.v .nilFunc)⟩ := rfl
theorem tT2 : tyT 2 = some ⟨.int .i64, 1, 8, (.v (.int .i64 0))⟩ := rfl
theorem tT3 : tyT 3 = some ⟨.int .i64, 1, 8, (.v (.int .i64 0))⟩ := rfl
theorem tT4 : tyT 4 = some ⟨.bool, 1, 1, (.v (.bool false))⟩ := rfl
theorem tT5 : tyT 5 = some ⟨.int .u8, 1, 1, (.v (.int .u8 0))⟩ := rfl
theorem tT9 : tyT 9 = some ⟨.str, 1, 16, (.v (.string (B [])))⟩ := rfl
theorem tT22 : tyT 22 = some ⟨.slice 24, 1, 24, (.v (.slice none 0 0))⟩ := rfl
theorem tT24 : tyT 24 = some ⟨.array 32 5, 32, 32, (.arr .u8 32 (fun _ => 0))⟩ := rfl
theorem tT25 : tyT 25 = some ⟨.int .i64, 1, 8, (.v (.int .i64 0))⟩ := rfl
theorem tT34 : tyT 34 = some ⟨.other, 1, 8, (.v .nilFunc)⟩ := rfl
theorem tT37 : tyT 37 = some ⟨.slice 9, 1, 24, (.v (.slice none 0 0))⟩ := rfl
theorem tT43 : tyT 43 = some ⟨.struct [(9, 0), (3, 1), (3, 2)], 3, 32, (.cons (.v (.string (B []))) (.cons (.v (.int .i64 0)) (.cons (.v (.int .i64 0)) .nil)))⟩ := rfl
theorem tT54 : tyT 54 = some ⟨.ptr 100, 1, 8, (.v (.pointer none))⟩ := rfl
theorem tT58 : tyT 58 = some ⟨.struct [(43, 0), (22, 3)], 4, 56, (.cons (.cons (.v (.string (B []))) (.cons (.v (.int .i64 0)) (.cons (.v (.int .i64 0)) .nil))) (.cons (.v (.slice none 0 0)) .nil))⟩ := rfl
theorem tT66 : tyT 66 = some ⟨.slice 68, 1, 24, (.v (.slice none 0 0))⟩ := rfl
theorem tT68 : tyT 68 = some ⟨.struct [(3, 0), (2, 1), (2, 2), (3, 3), (24, 4)], 36, 64, (.cons (.v (.int .i64 0)) (.cons (.v (.int .i64 0)) (.cons (.v (.int .i64 0)) (.cons (.v (.int .i64 0)) (.cons (.arr .u8 32 (fun _ => 0)) .nil)))))⟩ := rfl
theorem tT74 : tyT 74 = some ⟨.slice 3, 1, 24, (.v (.slice none 0 0))⟩ := rfl
theorem tT84 : tyT 84 = some ⟨.struct [(22, 0), (34, 1)], 2, 32, (.cons (.v (.slice none 0 0)) (.cons (.v .nilFunc) .nil))⟩ := rfl
theorem tT89 : tyT 89 = some ⟨.int .u64, 1, 8, (.v (.int .u64 0))⟩ := rfl
theorem tT90 : tyT 90 = some ⟨.slice 5, 1, 24, (.v (.slice none 0 0))⟩ := rfl
theorem tT92 : tyT 92 = some ⟨.int .u32, 1, 4, (.v (.int .u32 0))⟩ := rfl
theorem tT93 : tyT 93 = some ⟨.array 8 92, 8, 32, (.arr .u32 8 (fun _ => 0))⟩ := rfl
theorem tT95 : tyT 95 = some ⟨.array 64 92, 64, 256, (.arr .u32 64 (fun _ => 0))⟩ := rfl
theorem tT100 : tyT 100 = some ⟨.struct [(43, 0), (22, 3), (24, 4)], 36, 88, (.cons (.cons (.v (.string (B []))) (.cons (.v (.int .i64 0)) (.cons (.v (.int .i64 0)) .nil))) (.cons (.v (.slice none 0 0)) (.cons (.arr .u8 32 (fun _ => 0)) .nil)))⟩ := rfl
theorem tT117 : tyT 117 = some ⟨.array 8 92, 8, 32, (.arr .u32 8 (fun _ => 0))⟩ := rfl
theorem tT120 : tyT 120 = some ⟨.int .u64, 1, 8, (.v (.int .u64 0))⟩ := rfl
theorem tT134 : tyT 134 = some ⟨.slice 92, 1, 24, (.v (.slice none 0 0))⟩ := rfl
set_option maxRecDepth 20000 in
set_option maxHeartbeats 4000000 in
theorem tyT_ok : TOK Tryd.prog tyT := by
  intro t e h
  unfold tyT at h
  split at h
  all_goals first | (cases h; kernel_rfl) | (cases h; done)
def gtab : Nat → D
  | 0 => .arr .u32 8 (fun i => (([0x6a09e667, 0xbb67ae85, 0x3c6ef372, 0xa54ff53a, 0x510e527f, 0x9b05688c, 0x1f83d9ab, 0x5be0cd19] : List UInt32).getD i 0).toNat)
  | 1 => .arr .u32 64 (fun i => (kT.getD i 0).toNat)
  | _ => .dead
def envOf (P : Program) : Env := ⟨P, tyT, gtab, 2⟩
theorem env_mix : Tryd.prog.follows .mixedOrders = true := by kernel_rfl
end Go.Proofs.YtedioenakmgdiaaDoor

namespace Go.Proofs.YtedioenakmgdiaaDoor
set_option linter.unusedSimpArgs false
set_option linter.unusedVariables false
set_option maxRecDepth 10000
open Go.RowKit
theorem DR_q1 {C : Cx} {ops : Array Oper} {K : St → Prop} {o : Oper} {rest : List Oper} {s : Nat → D} {h : List (Option Bk)} {p : Prop} {d : D} (t : Nat) (hg : o.guard = none) (hd : o.dst = some t) (ht' : Nat.blt t C.n = true)
    (k : DR C ops K rest ⟨upd s t d, h⟩) (e : dqF C.T h o.op (argsD C ⟨s, h⟩ o) = some (p, d) := by simp only [byteD, implies_true, setD, bslF, buildF, buildL, List.zip_cons_cons, List.zip_nil_right, List.zip_nil_left, pureD, rng0, rng1, rng2, rng3, rng4, rng5, rng6, rng7, rng8, List.getD_cons_zero, List.getD_cons_succ, Nat.reduceLeDiff, decide_true, decide_false, List.all_cons, List.all_nil, dqF, nilF, callQ, argsD, Op.operands, Call.operands, evD, cD, gip, upd, look, List.map, List.map_cons, List.map_nil, binF, binI, shI, binS, unF, wD, kLo, kHi, kMod, kBits, convF, loadF, fieldF, faddrF, indexF, iaddrF, lenF, lenD, sliceF, sliceD, cutL, bndF, sub, nc, aggT, aggB, scB, tnth, elems, L_B, L_mk, List.getElem?_cons_zero, List.getElem?_cons_succ, reduceIte, reduceCtorEq, Option.isSome, List.toList_toArray, Nat.reduceAdd, Nat.reduceSub, Nat.reduceMul, Nat.reduceEqDiff, Nat.reduceLT, Nat.reduceBEq, mkF, Bool.and_true, Bool.true_and, Bool.and_false, Bool.false_and, beq_self_eq_true, mkC, Int.reduceToNat, Int.toNat_natCast, Int.reduceAdd, Int.reduceSub, Int.reduceMul, Nat.zero_add, Nat.add_zero, Nat.mul_one, and_true, true_and, Option.getD_some, Option.getD_none, u32D, u8D, iD, bD, strD, u32_xor, u32_or, u32_and, u32_add, u32_not, u32_shr, u32_shl, u8_u32, u32_u8, envOf, tyT, gtab, hX]; exact rfl) (hp : p := by first | exact trivial | exact ⟨by simp, rfl⟩ | exact u32_p _ _ | exact u32_p1 _ | omega | (simp only [L_B, bndF, Option.getD_some, Option.getD_none, List.length_drop, List.length_take] <;> omega) | (refine ⟨?_, fun _ _ => rfl⟩; (simp only [L_B, bndF, Option.getD_some, Option.getD_none, List.length_drop, List.length_take] <;> omega))) : DR C ops K (o :: rest) ⟨s, h⟩ := DR_q t hg hd ht' e hp k
theorem DR_call1 {E : Env} {C : Cx} {ops : Array Oper} {K : St → Prop} {o : Oper} {rest : List Oper} {s : Nat → D} {h : List (Option Bk)} {d : D} {f : FuncId} {g : Operand} {args : Array Operand} {ts : Array TypeId} {xs : List D} (t : Nat) (hE : EnvC E C) (hg : o.guard = none) (hd : o.dst = some t) (ht' : Nat.blt t C.n = true)
    (ho : o.op = .call { callee := .value g, args := args, argTypes := ts }) (hf : fnB C.P f = true)
    (k : DR C ops K rest ⟨upd s t d, h⟩) (e : argsD C ⟨s, h⟩ o = .fn f .nil :: xs := by simp only [byteD, implies_true, setD, bslF, buildF, buildL, List.zip_cons_cons, List.zip_nil_right, List.zip_nil_left, pureD, rng0, rng1, rng2, rng3, rng4, rng5, rng6, rng7, rng8, List.getD_cons_zero, List.getD_cons_succ, Nat.reduceLeDiff, decide_true, decide_false, List.all_cons, List.all_nil, dqF, nilF, callQ, argsD, Op.operands, Call.operands, evD, cD, gip, upd, look, List.map, List.map_cons, List.map_nil, binF, binI, shI, binS, unF, wD, kLo, kHi, kMod, kBits, convF, loadF, fieldF, faddrF, indexF, iaddrF, lenF, lenD, sliceF, sliceD, cutL, bndF, sub, nc, aggT, aggB, scB, tnth, elems, L_B, L_mk, List.getElem?_cons_zero, List.getElem?_cons_succ, reduceIte, reduceCtorEq, Option.isSome, List.toList_toArray, Nat.reduceAdd, Nat.reduceSub, Nat.reduceMul, Nat.reduceEqDiff, Nat.reduceLT, Nat.reduceBEq, mkF, Bool.and_true, Bool.true_and, Bool.and_false, Bool.false_and, beq_self_eq_true, mkC, Int.reduceToNat, Int.toNat_natCast, Int.reduceAdd, Int.reduceSub, Int.reduceMul, Nat.zero_add, Nat.add_zero, Nat.mul_one, and_true, true_and, Option.getD_some, Option.getD_none, u32D, u8D, iD, bD, strD, u32_xor, u32_or, u32_and, u32_add, u32_not, u32_shr, u32_shl, u8_u32, u32_u8, envOf, tyT, gtab, hX]; exact rfl) (hx : xs.all pureD = true := by rfl) (hc : PC E f xs d) : DR C ops K (o :: rest) ⟨s, h⟩ := DR_c t hg hd ht' e (DQ_call1 hE ho hf hx hc) k
theorem DRq_q1 {C : Cx} {ops : Array Oper} {K : St → Prop} {o : Oper} {rest : List Oper} {s : Nat → D} {h : List (Option Bk)} {p : Prop} {d : D} (t : Nat) (hg : o.guard = none) (hd : o.dst = some t) (ht' : Nat.blt t C.n = true)
    (k : DRq C ops K rest ⟨upd s t d, h⟩) (e : dqF C.T h o.op (argsD C ⟨s, h⟩ o) = some (p, d) := by simp only [byteD, implies_true, setD, bslF, buildF, buildL, List.zip_cons_cons, List.zip_nil_right, List.zip_nil_left, pureD, rng0, rng1, rng2, rng3, rng4, rng5, rng6, rng7, rng8, List.getD_cons_zero, List.getD_cons_succ, Nat.reduceLeDiff, decide_true, decide_false, List.all_cons, List.all_nil, dqF, nilF, callQ, argsD, Op.operands, Call.operands, evD, cD, gip, upd, look, List.map, List.map_cons, List.map_nil, binF, binI, shI, binS, unF, wD, kLo, kHi, kMod, kBits, convF, loadF, fieldF, faddrF, indexF, iaddrF, lenF, lenD, sliceF, sliceD, cutL, bndF, sub, nc, aggT, aggB, scB, tnth, elems, L_B, L_mk, List.getElem?_cons_zero, List.getElem?_cons_succ, reduceIte, reduceCtorEq, Option.isSome, List.toList_toArray, Nat.reduceAdd, Nat.reduceSub, Nat.reduceMul, Nat.reduceEqDiff, Nat.reduceLT, Nat.reduceBEq, mkF, Bool.and_true, Bool.true_and, Bool.and_false, Bool.false_and, beq_self_eq_true, mkC, Int.reduceToNat, Int.toNat_natCast, Int.reduceAdd, Int.reduceSub, Int.reduceMul, Nat.zero_add, Nat.add_zero, Nat.mul_one, and_true, true_and, Option.getD_some, Option.getD_none, u32D, u8D, iD, bD, strD, u32_xor, u32_or, u32_and, u32_add, u32_not, u32_shr, u32_shl, u8_u32, u32_u8, envOf, tyT, gtab, hX]; exact rfl) (hp : p := by first | exact trivial | exact ⟨by simp, rfl⟩ | exact u32_p _ _ | exact u32_p1 _ | omega | (simp only [L_B, bndF, Option.getD_some, Option.getD_none, List.length_drop, List.length_take] <;> omega) | (refine ⟨?_, fun _ _ => rfl⟩; (simp only [L_B, bndF, Option.getD_some, Option.getD_none, List.length_drop, List.length_take] <;> omega))) : DRq C ops K (o :: rest) ⟨s, h⟩ := DRq_q t hg hd ht' e hp k
theorem DRq_call1 {E : Env} {C : Cx} {ops : Array Oper} {K : St → Prop} {o : Oper} {rest : List Oper} {s : Nat → D} {h : List (Option Bk)} {d : D} {f : FuncId} {g : Operand} {args : Array Operand} {ts : Array TypeId} {xs : List D} (t : Nat) (hE : EnvC E C) (hg : o.guard = none) (hd : o.dst = some t) (ht' : Nat.blt t C.n = true)
    (ho : o.op = .call { callee := .value g, args := args, argTypes := ts }) (hf : fnB C.P f = true)
    (k : DRq C ops K rest ⟨upd s t d, h⟩) (e : argsD C ⟨s, h⟩ o = .fn f .nil :: xs := by simp only [byteD, implies_true, setD, bslF, buildF, buildL, List.zip_cons_cons, List.zip_nil_right, List.zip_nil_left, pureD, rng0, rng1, rng2, rng3, rng4, rng5, rng6, rng7, rng8, List.getD_cons_zero, List.getD_cons_succ, Nat.reduceLeDiff, decide_true, decide_false, List.all_cons, List.all_nil, dqF, nilF, callQ, argsD, Op.operands, Call.operands, evD, cD, gip, upd, look, List.map, List.map_cons, List.map_nil, binF, binI, shI, binS, unF, wD, kLo, kHi, kMod, kBits, convF, loadF, fieldF, faddrF, indexF, iaddrF, lenF, lenD, sliceF, sliceD, cutL, bndF, sub, nc, aggT, aggB, scB, tnth, elems, L_B, L_mk, List.getElem?_cons_zero, List.getElem?_cons_succ, reduceIte, reduceCtorEq, Option.isSome, List.toList_toArray, Nat.reduceAdd, Nat.reduceSub, Nat.reduceMul, Nat.reduceEqDiff, Nat.reduceLT, Nat.reduceBEq, mkF, Bool.and_true, Bool.true_and, Bool.and_false, Bool.false_and, beq_self_eq_true, mkC, Int.reduceToNat, Int.toNat_natCast, Int.reduceAdd, Int.reduceSub, Int.reduceMul, Nat.zero_add, Nat.add_zero, Nat.mul_one, and_true, true_and, Option.getD_some, Option.getD_none, u32D, u8D, iD, bD, strD, u32_xor, u32_or, u32_and, u32_add, u32_not, u32_shr, u32_shl, u8_u32, u32_u8, envOf, tyT, gtab, hX]; exact rfl) (hx : xs.all pureD = true := by rfl) (hc : PC E f xs d) : DRq C ops K (o :: rest) ⟨s, h⟩ := DRq_c t hg hd ht' e (DQ_call1 hE ho hf hx hc) k
theorem DR_e1 {C : Cx} {ops : Array Oper} {K : St → Prop} {o : Oper} {rest : List Oper} {st st' st'' : St} (hg : o.guard = none) (hD : DO C o st st') (k : DR C ops K rest st'') (e : st' = st'' := by simp only [St.put, kilH, kilB, kil, List.map_cons, List.map_nil, List.set, List.length, List.nil_append, List.cons_append, List.append_nil, Option.map, L_B, Nat.reduceAdd, Nat.zero_add, reduceIte, Nat.reduceEqDiff, hX]; exact rfl) : DR C ops K (o :: rest) st := DR_e hg hD e k
theorem DO_store1 {C : Cx} {o : Oper} {st : St} {t : Nat} {x y : Operand} {p : Prop} {h' : List (Option Bk)} (ho : o.op = .store t x y) (hd : dstB C o = true) (hf : storeF C.T st.h t (evD C st x) (evD C st y) = some (p, h') := by simp only [St.put, kilH, kil, kilB, List.map, List.set, List.length, List.nil_append, List.cons_append, List.append_nil, Option.map, storeF, setD, srcD, byteD, byteD, implies_true, setD, bslF, buildF, buildL, List.zip_cons_cons, List.zip_nil_right, List.zip_nil_left, pureD, rng0, rng1, rng2, rng3, rng4, rng5, rng6, rng7, rng8, List.getD_cons_zero, List.getD_cons_succ, Nat.reduceLeDiff, decide_true, decide_false, List.all_cons, List.all_nil, dqF, nilF, callQ, argsD, Op.operands, Call.operands, evD, cD, gip, upd, look, List.map, List.map_cons, List.map_nil, binF, binI, shI, binS, unF, wD, kLo, kHi, kMod, kBits, convF, loadF, fieldF, faddrF, indexF, iaddrF, lenF, lenD, sliceF, sliceD, cutL, bndF, sub, nc, aggT, aggB, scB, tnth, elems, L_B, L_mk, List.getElem?_cons_zero, List.getElem?_cons_succ, reduceIte, reduceCtorEq, Option.isSome, List.toList_toArray, Nat.reduceAdd, Nat.reduceSub, Nat.reduceMul, Nat.reduceEqDiff, Nat.reduceLT, Nat.reduceBEq, mkF, Bool.and_true, Bool.true_and, Bool.and_false, Bool.false_and, beq_self_eq_true, mkC, Int.reduceToNat, Int.toNat_natCast, Int.reduceAdd, Int.reduceSub, Int.reduceMul, Nat.zero_add, Nat.add_zero, Nat.mul_one, and_true, true_and, Option.getD_some, Option.getD_none, u32D, u8D, iD, bD, strD, u32_xor, u32_or, u32_and, u32_add, u32_not, u32_shr, u32_shl, u8_u32, u32_u8, envOf, tyT, gtab, hX]; exact rfl) (hp : p := by first | exact trivial | exact ⟨by simp, rfl⟩ | exact u32_p _ _ | exact u32_p1 _ | omega | (simp only [L_B, bndF, Option.getD_some, Option.getD_none, List.length_drop, List.length_take] <;> omega) | (refine ⟨?_, fun _ _ => rfl⟩; (simp only [L_B, bndF, Option.getD_some, Option.getD_none, List.length_drop, List.length_take] <;> omega))) : DO C o st (St.put { st with h := h' } o.dst .dead) := DO_store ho hd hf hp
theorem DO_box1 {C : Cx} {o : Oper} {st : St} {T : Nat} {x : Operand} (ho : o.op = .box T x) (hd : dstB C o = true) (hx : (aggB (evD C st x) || scB (evD C st x)) = true := by simp only [St.put, kilH, kil, kilB, List.map, List.set, List.length, List.nil_append, List.cons_append, List.append_nil, Option.map, storeF, setD, srcD, byteD, byteD, implies_true, setD, bslF, buildF, buildL, List.zip_cons_cons, List.zip_nil_right, List.zip_nil_left, pureD, rng0, rng1, rng2, rng3, rng4, rng5, rng6, rng7, rng8, List.getD_cons_zero, List.getD_cons_succ, Nat.reduceLeDiff, decide_true, decide_false, List.all_cons, List.all_nil, dqF, nilF, callQ, argsD, Op.operands, Call.operands, evD, cD, gip, upd, look, List.map, List.map_cons, List.map_nil, binF, binI, shI, binS, unF, wD, kLo, kHi, kMod, kBits, convF, loadF, fieldF, faddrF, indexF, iaddrF, lenF, lenD, sliceF, sliceD, cutL, bndF, sub, nc, aggT, aggB, scB, tnth, elems, L_B, L_mk, List.getElem?_cons_zero, List.getElem?_cons_succ, reduceIte, reduceCtorEq, Option.isSome, List.toList_toArray, Nat.reduceAdd, Nat.reduceSub, Nat.reduceMul, Nat.reduceEqDiff, Nat.reduceLT, Nat.reduceBEq, mkF, Bool.and_true, Bool.true_and, Bool.and_false, Bool.false_and, beq_self_eq_true, mkC, Int.reduceToNat, Int.toNat_natCast, Int.reduceAdd, Int.reduceSub, Int.reduceMul, Nat.zero_add, Nat.add_zero, Nat.mul_one, and_true, true_and, Option.getD_some, Option.getD_none, u32D, u8D, iD, bD, strD, u32_xor, u32_or, u32_and, u32_add, u32_not, u32_shr, u32_shl, u8_u32, u32_u8, envOf, tyT, gtab, hX]; exact rfl) : DO C o st (St.put { st with h := st.h ++ [some (.one (evD C st x))] } o.dst (.ptr st.h.length 0)) := DO_box ho hd hx
theorem DW_drop1 {C : Cx} {c : Code} {Q : Exit → St → Prop} {s : Nat → D} {h : List (Option Bk)} (live : List Nat) {l : List (Nat × D)} (k : DW C c Q (mk l h)) (e : pick s live = l := by simp only [pick, kil, byteD, implies_true, setD, bslF, buildF, buildL, List.zip_cons_cons, List.zip_nil_right, List.zip_nil_left, pureD, rng0, rng1, rng2, rng3, rng4, rng5, rng6, rng7, rng8, List.getD_cons_zero, List.getD_cons_succ, Nat.reduceLeDiff, decide_true, decide_false, List.all_cons, List.all_nil, dqF, nilF, callQ, argsD, Op.operands, Call.operands, evD, cD, gip, upd, look, List.map, List.map_cons, List.map_nil, binF, binI, shI, binS, unF, wD, kLo, kHi, kMod, kBits, convF, loadF, fieldF, faddrF, indexF, iaddrF, lenF, lenD, sliceF, sliceD, cutL, bndF, sub, nc, aggT, aggB, scB, tnth, elems, L_B, L_mk, List.getElem?_cons_zero, List.getElem?_cons_succ, reduceIte, reduceCtorEq, Option.isSome, List.toList_toArray, Nat.reduceAdd, Nat.reduceSub, Nat.reduceMul, Nat.reduceEqDiff, Nat.reduceLT, Nat.reduceBEq, mkF, Bool.and_true, Bool.true_and, Bool.and_false, Bool.false_and, beq_self_eq_true, mkC, Int.reduceToNat, Int.toNat_natCast, Int.reduceAdd, Int.reduceSub, Int.reduceMul, Nat.zero_add, Nat.add_zero, Nat.mul_one, and_true, true_and, Option.getD_some, Option.getD_none, u32D, u8D, iD, bD, strD, u32_xor, u32_or, u32_and, u32_add, u32_not, u32_shr, u32_shl, u8_u32, u32_u8, hX]; exact rfl) : DW C c Q ⟨s, h⟩ := DW_drop live e k
theorem pk1 {a b c : St} (k : b = c) (e : a = b := by simp only [pick, kil, byteD, implies_true, setD, bslF, buildF, buildL, List.zip_cons_cons, List.zip_nil_right, List.zip_nil_left, pureD, rng0, rng1, rng2, rng3, rng4, rng5, rng6, rng7, rng8, List.getD_cons_zero, List.getD_cons_succ, Nat.reduceLeDiff, decide_true, decide_false, List.all_cons, List.all_nil, dqF, nilF, callQ, argsD, Op.operands, Call.operands, evD, cD, gip, upd, look, List.map, List.map_cons, List.map_nil, binF, binI, shI, binS, unF, wD, kLo, kHi, kMod, kBits, convF, loadF, fieldF, faddrF, indexF, iaddrF, lenF, lenD, sliceF, sliceD, cutL, bndF, sub, nc, aggT, aggB, scB, tnth, elems, L_B, L_mk, List.getElem?_cons_zero, List.getElem?_cons_succ, reduceIte, reduceCtorEq, Option.isSome, List.toList_toArray, Nat.reduceAdd, Nat.reduceSub, Nat.reduceMul, Nat.reduceEqDiff, Nat.reduceLT, Nat.reduceBEq, mkF, Bool.and_true, Bool.true_and, Bool.and_false, Bool.false_and, beq_self_eq_true, mkC, Int.reduceToNat, Int.toNat_natCast, Int.reduceAdd, Int.reduceSub, Int.reduceMul, Nat.zero_add, Nat.add_zero, Nat.mul_one, and_true, true_and, Option.getD_some, Option.getD_none, u32D, u8D, iD, bD, strD, u32_xor, u32_or, u32_and, u32_add, u32_not, u32_shr, u32_shl, u8_u32, u32_u8, hX]; exact rfl) : a = c := e.trans k
theorem DO_callM1 {E : Env} {C : Cx} (hE : EnvC E C) {o : Oper} {st : St} {f : FuncId} {args : Array Operand} {ts : Array TypeId} {l : Nat} {d0 d1 r : D} {xs : List D} (ho : o.op = .call { callee := .value (.func f), args := args, argTypes := ts }) (hd : dstB C o = true) (hf : fnB C.P f = true)
    (hx : argsD C st o = .fn f .nil :: .ptr l 0 :: xs := by simp only [byteD, implies_true, setD, bslF, buildF, buildL, List.zip_cons_cons, List.zip_nil_right, List.zip_nil_left, pureD, rng0, rng1, rng2, rng3, rng4, rng5, rng6, rng7, rng8, List.getD_cons_zero, List.getD_cons_succ, Nat.reduceLeDiff, decide_true, decide_false, List.all_cons, List.all_nil, dqF, nilF, callQ, argsD, Op.operands, Call.operands, evD, cD, gip, upd, look, List.map, List.map_cons, List.map_nil, binF, binI, shI, binS, unF, wD, kLo, kHi, kMod, kBits, convF, loadF, fieldF, faddrF, indexF, iaddrF, lenF, lenD, sliceF, sliceD, cutL, bndF, sub, nc, aggT, aggB, scB, tnth, elems, L_B, L_mk, List.getElem?_cons_zero, List.getElem?_cons_succ, reduceIte, reduceCtorEq, Option.isSome, List.toList_toArray, Nat.reduceAdd, Nat.reduceSub, Nat.reduceMul, Nat.reduceEqDiff, Nat.reduceLT, Nat.reduceBEq, mkF, Bool.and_true, Bool.true_and, Bool.and_false, Bool.false_and, beq_self_eq_true, mkC, Int.reduceToNat, Int.toNat_natCast, Int.reduceAdd, Int.reduceSub, Int.reduceMul, Nat.zero_add, Nat.add_zero, Nat.mul_one, and_true, true_and, Option.getD_some, Option.getD_none, u32D, u8D, iD, bD, strD, u32_xor, u32_or, u32_and, u32_add, u32_not, u32_shr, u32_shl, u8_u32, u32_u8, envOf, tyT, gtab, hX]; exact rfl) (hp : xs.all pureD = true := by rfl) (hl : st.h[l]? = some (some (.one d0)) := by simp only [byteD, implies_true, setD, bslF, buildF, buildL, List.zip_cons_cons, List.zip_nil_right, List.zip_nil_left, pureD, rng0, rng1, rng2, rng3, rng4, rng5, rng6, rng7, rng8, List.getD_cons_zero, List.getD_cons_succ, Nat.reduceLeDiff, decide_true, decide_false, List.all_cons, List.all_nil, dqF, nilF, callQ, argsD, Op.operands, Call.operands, evD, cD, gip, upd, look, List.map, List.map_cons, List.map_nil, binF, binI, shI, binS, unF, wD, kLo, kHi, kMod, kBits, convF, loadF, fieldF, faddrF, indexF, iaddrF, lenF, lenD, sliceF, sliceD, cutL, bndF, sub, nc, aggT, aggB, scB, tnth, elems, L_B, L_mk, List.getElem?_cons_zero, List.getElem?_cons_succ, reduceIte, reduceCtorEq, Option.isSome, List.toList_toArray, Nat.reduceAdd, Nat.reduceSub, Nat.reduceMul, Nat.reduceEqDiff, Nat.reduceLT, Nat.reduceBEq, mkF, Bool.and_true, Bool.true_and, Bool.and_false, Bool.false_and, beq_self_eq_true, mkC, Int.reduceToNat, Int.toNat_natCast, Int.reduceAdd, Int.reduceSub, Int.reduceMul, Nat.zero_add, Nat.add_zero, Nat.mul_one, and_true, true_and, Option.getD_some, Option.getD_none, u32D, u8D, iD, bD, strD, u32_xor, u32_or, u32_and, u32_add, u32_not, u32_shr, u32_shl, u8_u32, u32_u8, envOf, tyT, gtab, hX]; exact rfl) (hp0 : pureD d0 = true := by rfl) (hc : PM E f d0 xs d1 r) : DO C o st (St.put { st with h := st.h.set l (some (.one d1)) } o.dst r) := DO_callM hE ho hd hf hx hp hl hp0 hc
end Go.Proofs.YtedioenakmgdiaaDoor

namespace Go.Proofs.YtedioenakmgdiaaDoor
set_option linter.unusedSimpArgs false
set_option linter.unusedVariables false
set_option maxRecDepth 10000
open Go.RowKit
theorem DR_g1 {C : Cx} {ops : Array Oper} {K : St → Prop} {o o' : Oper} {rest : List Oper} {s : Nat → D} {h : List (Option Bk)} {g u : Nat} {want : Bool} (hg : o.guard = some (g, want)) (hu : (ops[g]?).bind (·.dst) = some u)
    (k : DR C ops K (o' :: rest) ⟨s, h⟩) (e : unguard o = o' := by simp only [unguard]; exact rfl) (hs : s u = .v (.bool want) := by simp only [byteD, implies_true, setD, bslF, buildF, buildL, List.zip_cons_cons, List.zip_nil_right, List.zip_nil_left, pureD, rng0, rng1, rng2, rng3, rng4, rng5, rng6, rng7, rng8, List.getD_cons_zero, List.getD_cons_succ, Nat.reduceLeDiff, decide_true, decide_false, List.all_cons, List.all_nil, dqF, nilF, callQ, argsD, Op.operands, Call.operands, evD, cD, gip, upd, look, List.map, List.map_cons, List.map_nil, binF, binI, shI, binS, unF, wD, kLo, kHi, kMod, kBits, convF, loadF, fieldF, faddrF, indexF, iaddrF, lenF, lenD, sliceF, sliceF3, minF, sliceD, cutL, bndF, sub, nc, aggT, aggB, scB, tnth, elems, L_B, L_mk, List.getElem?_cons_zero, List.getElem?_cons_succ, reduceIte, reduceCtorEq, Option.isSome, List.toList_toArray, Nat.reduceAdd, Nat.reduceSub, Nat.reduceMul, Nat.reduceEqDiff, Nat.reduceLT, Nat.reduceBEq, mkF, mkG, Bool.and_true, Bool.true_and, Bool.and_false, Bool.false_and, beq_self_eq_true, mkC, Int.reduceToNat, Int.toNat_natCast, Int.reduceAdd, Int.reduceSub, Int.reduceMul, Nat.zero_add, Nat.add_zero, Nat.mul_one, and_true, true_and, Option.getD_some, Option.getD_none, u32D, u8D, iD, bD, strD, u32_xor, u32_or, u32_and, u32_add, u32_not, u32_shr, u32_shl, u8_u32, u32_u8, hX] <;> exact rfl) : DR C ops K (o :: rest) ⟨s, h⟩ := by
  subst e
  exact DR_g hg hu hs k
theorem DRq_g1 {C : Cx} {ops : Array Oper} {K : St → Prop} {o o' : Oper} {rest : List Oper} {s : Nat → D} {h : List (Option Bk)} {g u : Nat} {want : Bool} (hg : o.guard = some (g, want)) (hu : (ops[g]?).bind (·.dst) = some u)
    (k : DRq C ops K (o' :: rest) ⟨s, h⟩) (e : unguard o = o' := by simp only [unguard]; exact rfl) (hs : s u = .v (.bool want) := by simp only [byteD, implies_true, setD, bslF, buildF, buildL, List.zip_cons_cons, List.zip_nil_right, List.zip_nil_left, pureD, rng0, rng1, rng2, rng3, rng4, rng5, rng6, rng7, rng8, List.getD_cons_zero, List.getD_cons_succ, Nat.reduceLeDiff, decide_true, decide_false, List.all_cons, List.all_nil, dqF, nilF, callQ, argsD, Op.operands, Call.operands, evD, cD, gip, upd, look, List.map, List.map_cons, List.map_nil, binF, binI, shI, binS, unF, wD, kLo, kHi, kMod, kBits, convF, loadF, fieldF, faddrF, indexF, iaddrF, lenF, lenD, sliceF, sliceF3, minF, sliceD, cutL, bndF, sub, nc, aggT, aggB, scB, tnth, elems, L_B, L_mk, List.getElem?_cons_zero, List.getElem?_cons_succ, reduceIte, reduceCtorEq, Option.isSome, List.toList_toArray, Nat.reduceAdd, Nat.reduceSub, Nat.reduceMul, Nat.reduceEqDiff, Nat.reduceLT, Nat.reduceBEq, mkF, mkG, Bool.and_true, Bool.true_and, Bool.and_false, Bool.false_and, beq_self_eq_true, mkC, Int.reduceToNat, Int.toNat_natCast, Int.reduceAdd, Int.reduceSub, Int.reduceMul, Nat.zero_add, Nat.add_zero, Nat.mul_one, and_true, true_and, Option.getD_some, Option.getD_none, u32D, u8D, iD, bD, strD, u32_xor, u32_or, u32_and, u32_add, u32_not, u32_shr, u32_shl, u8_u32, u32_u8, hX] <;> exact rfl) : DRq C ops K (o :: rest) ⟨s, h⟩ := by
  subst e
  exact DRq_g hg hu hs k
theorem DR_skip1 {C : Cx} {ops : Array Oper} {K : St → Prop} {o : Oper} {rest : List Oper} {s : Nat → D} {h : List (Option Bk)} {g u t : Nat} {want : Bool} (hg : o.guard = some (g, want)) (hu : (ops[g]?).bind (·.dst) = some u) (hd : o.dst = some t) (ht' : Nat.blt t C.n = true)
    (k : DR C ops K rest ⟨upd s t unD, h⟩) (hs : s u = .v (.bool (!want)) := by simp only [byteD, implies_true, setD, bslF, buildF, buildL, List.zip_cons_cons, List.zip_nil_right, List.zip_nil_left, pureD, rng0, rng1, rng2, rng3, rng4, rng5, rng6, rng7, rng8, List.getD_cons_zero, List.getD_cons_succ, Nat.reduceLeDiff, decide_true, decide_false, List.all_cons, List.all_nil, dqF, nilF, callQ, argsD, Op.operands, Call.operands, evD, cD, gip, upd, look, List.map, List.map_cons, List.map_nil, binF, binI, shI, binS, unF, wD, kLo, kHi, kMod, kBits, convF, loadF, fieldF, faddrF, indexF, iaddrF, lenF, lenD, sliceF, sliceF3, minF, sliceD, cutL, bndF, sub, nc, aggT, aggB, scB, tnth, elems, L_B, L_mk, List.getElem?_cons_zero, List.getElem?_cons_succ, reduceIte, reduceCtorEq, Option.isSome, List.toList_toArray, Nat.reduceAdd, Nat.reduceSub, Nat.reduceMul, Nat.reduceEqDiff, Nat.reduceLT, Nat.reduceBEq, mkF, mkG, Bool.and_true, Bool.true_and, Bool.and_false, Bool.false_and, beq_self_eq_true, mkC, Int.reduceToNat, Int.toNat_natCast, Int.reduceAdd, Int.reduceSub, Int.reduceMul, Nat.zero_add, Nat.add_zero, Nat.mul_one, and_true, true_and, Option.getD_some, Option.getD_none, u32D, u8D, iD, bD, strD, u32_xor, u32_or, u32_and, u32_add, u32_not, u32_shr, u32_shl, u8_u32, u32_u8, hX, Bool.not_true, Bool.not_false] <;> exact rfl) : DR C ops K (o :: rest) ⟨s, h⟩ := DR_skip hg hu hd ht' hs k
theorem DRq_skip1 {C : Cx} {ops : Array Oper} {K : St → Prop} {o : Oper} {rest : List Oper} {s : Nat → D} {h : List (Option Bk)} {g u t : Nat} {want : Bool} (hg : o.guard = some (g, want)) (hu : (ops[g]?).bind (·.dst) = some u) (hd : o.dst = some t) (ht' : Nat.blt t C.n = true)
    (k : DRq C ops K rest ⟨upd s t unD, h⟩) (hs : s u = .v (.bool (!want)) := by simp only [byteD, implies_true, setD, bslF, buildF, buildL, List.zip_cons_cons, List.zip_nil_right, List.zip_nil_left, pureD, rng0, rng1, rng2, rng3, rng4, rng5, rng6, rng7, rng8, List.getD_cons_zero, List.getD_cons_succ, Nat.reduceLeDiff, decide_true, decide_false, List.all_cons, List.all_nil, dqF, nilF, callQ, argsD, Op.operands, Call.operands, evD, cD, gip, upd, look, List.map, List.map_cons, List.map_nil, binF, binI, shI, binS, unF, wD, kLo, kHi, kMod, kBits, convF, loadF, fieldF, faddrF, indexF, iaddrF, lenF, lenD, sliceF, sliceF3, minF, sliceD, cutL, bndF, sub, nc, aggT, aggB, scB, tnth, elems, L_B, L_mk, List.getElem?_cons_zero, List.getElem?_cons_succ, reduceIte, reduceCtorEq, Option.isSome, List.toList_toArray, Nat.reduceAdd, Nat.reduceSub, Nat.reduceMul, Nat.reduceEqDiff, Nat.reduceLT, Nat.reduceBEq, mkF, mkG, Bool.and_true, Bool.true_and, Bool.and_false, Bool.false_and, beq_self_eq_true, mkC, Int.reduceToNat, Int.toNat_natCast, Int.reduceAdd, Int.reduceSub, Int.reduceMul, Nat.zero_add, Nat.add_zero, Nat.mul_one, and_true, true_and, Option.getD_some, Option.getD_none, u32D, u8D, iD, bD, strD, u32_xor, u32_or, u32_and, u32_add, u32_not, u32_shr, u32_shl, u8_u32, u32_u8, hX, Bool.not_true, Bool.not_false] <;> exact rfl) : DRq C ops K (o :: rest) ⟨s, h⟩ := DRq_skip hg hu hd ht' hs k
theorem DR_eqa1 {C : Cx} {ops : Array Oper} {K : St → Prop} {o : Oper} {rest : List Oper} {s : Nat → D} {h : List (Option Bk)} {op : BinOp} {ty u : Nat} {x y : Operand} {a b d : D} (t : Nat) (hg : o.guard = none) (hd : o.dst = some t) (ht' : Nat.blt t C.n = true) (ho : o.op = .binOp op ty x y u)
    (k : DR C ops K rest ⟨upd s t d, h⟩) (hm : C.P.eqGuardType C.P.depth ty = false := by kernel_rfl) (e : argsD C ⟨s, h⟩ o = [a, b] := by simp only [byteD, implies_true, setD, bslF, buildF, buildL, List.zip_cons_cons, List.zip_nil_right, List.zip_nil_left, pureD, rng0, rng1, rng2, rng3, rng4, rng5, rng6, rng7, rng8, List.getD_cons_zero, List.getD_cons_succ, Nat.reduceLeDiff, decide_true, decide_false, List.all_cons, List.all_nil, dqF, nilF, callQ, argsD, Op.operands, Call.operands, evD, cD, gip, upd, look, List.map, List.map_cons, List.map_nil, binF, binI, shI, binS, unF, wD, kLo, kHi, kMod, kBits, convF, loadF, fieldF, faddrF, indexF, iaddrF, lenF, lenD, sliceF, sliceF3, minF, sliceD, cutL, bndF, sub, nc, aggT, aggB, scB, tnth, elems, L_B, L_mk, List.getElem?_cons_zero, List.getElem?_cons_succ, reduceIte, reduceCtorEq, Option.isSome, List.toList_toArray, Nat.reduceAdd, Nat.reduceSub, Nat.reduceMul, Nat.reduceEqDiff, Nat.reduceLT, Nat.reduceBEq, mkF, mkG, Bool.and_true, Bool.true_and, Bool.and_false, Bool.false_and, beq_self_eq_true, mkC, Int.reduceToNat, Int.toNat_natCast, Int.reduceAdd, Int.reduceSub, Int.reduceMul, Nat.zero_add, Nat.add_zero, Nat.mul_one, and_true, true_and, Option.getD_some, Option.getD_none, u32D, u8D, iD, bD, strD, u32_xor, u32_or, u32_and, u32_add, u32_not, u32_shr, u32_shl, u8_u32, u32_u8, envOf, tyT, gtab, hX]; exact rfl) (hf : eqaF C.T op ty a b = some d := by simp only [eqaF, and_self, if_true, byteD, implies_true, setD, bslF, buildF, buildL, List.zip_cons_cons, List.zip_nil_right, List.zip_nil_left, pureD, rng0, rng1, rng2, rng3, rng4, rng5, rng6, rng7, rng8, List.getD_cons_zero, List.getD_cons_succ, Nat.reduceLeDiff, decide_true, decide_false, List.all_cons, List.all_nil, dqF, nilF, callQ, argsD, Op.operands, Call.operands, evD, cD, gip, upd, look, List.map, List.map_cons, List.map_nil, binF, binI, shI, binS, unF, wD, kLo, kHi, kMod, kBits, convF, loadF, fieldF, faddrF, indexF, iaddrF, lenF, lenD, sliceF, sliceF3, minF, sliceD, cutL, bndF, sub, nc, aggT, aggB, scB, tnth, elems, L_B, L_mk, List.getElem?_cons_zero, List.getElem?_cons_succ, reduceIte, reduceCtorEq, Option.isSome, List.toList_toArray, Nat.reduceAdd, Nat.reduceSub, Nat.reduceMul, Nat.reduceEqDiff, Nat.reduceLT, Nat.reduceBEq, mkF, mkG, Bool.and_true, Bool.true_and, Bool.and_false, Bool.false_and, beq_self_eq_true, mkC, Int.reduceToNat, Int.toNat_natCast, Int.reduceAdd, Int.reduceSub, Int.reduceMul, Nat.zero_add, Nat.add_zero, Nat.mul_one, and_true, true_and, Option.getD_some, Option.getD_none, u32D, u8D, iD, bD, strD, u32_xor, u32_or, u32_and, u32_add, u32_not, u32_shr, u32_shl, u8_u32, u32_u8, envOf, tyT, gtab, hX]; exact rfl) : DR C ops K (o :: rest) ⟨s, h⟩ := DR_c t hg hd ht' e (DQ_eqa ho hm hf) k
theorem DRq_eqa1 {C : Cx} {ops : Array Oper} {K : St → Prop} {o : Oper} {rest : List Oper} {s : Nat → D} {h : List (Option Bk)} {op : BinOp} {ty u : Nat} {x y : Operand} {a b d : D} (t : Nat) (hg : o.guard = none) (hd : o.dst = some t) (ht' : Nat.blt t C.n = true) (ho : o.op = .binOp op ty x y u)
    (k : DRq C ops K rest ⟨upd s t d, h⟩) (hm : C.P.eqGuardType C.P.depth ty = false := by kernel_rfl) (e : argsD C ⟨s, h⟩ o = [a, b] := by simp only [byteD, implies_true, setD, bslF, buildF, buildL, List.zip_cons_cons, List.zip_nil_right, List.zip_nil_left, pureD, rng0, rng1, rng2, rng3, rng4, rng5, rng6, rng7, rng8, List.getD_cons_zero, List.getD_cons_succ, Nat.reduceLeDiff, decide_true, decide_false, List.all_cons, List.all_nil, dqF, nilF, callQ, argsD, Op.operands, Call.operands, evD, cD, gip, upd, look, List.map, List.map_cons, List.map_nil, binF, binI, shI, binS, unF, wD, kLo, kHi, kMod, kBits, convF, loadF, fieldF, faddrF, indexF, iaddrF, lenF, lenD, sliceF, sliceF3, minF, sliceD, cutL, bndF, sub, nc, aggT, aggB, scB, tnth, elems, L_B, L_mk, List.getElem?_cons_zero, List.getElem?_cons_succ, reduceIte, reduceCtorEq, Option.isSome, List.toList_toArray, Nat.reduceAdd, Nat.reduceSub, Nat.reduceMul, Nat.reduceEqDiff, Nat.reduceLT, Nat.reduceBEq, mkF, mkG, Bool.and_true, Bool.true_and, Bool.and_false, Bool.false_and, beq_self_eq_true, mkC, Int.reduceToNat, Int.toNat_natCast, Int.reduceAdd, Int.reduceSub, Int.reduceMul, Nat.zero_add, Nat.add_zero, Nat.mul_one, and_true, true_and, Option.getD_some, Option.getD_none, u32D, u8D, iD, bD, strD, u32_xor, u32_or, u32_and, u32_add, u32_not, u32_shr, u32_shl, u8_u32, u32_u8, envOf, tyT, gtab, hX]; exact rfl) (hf : eqaF C.T op ty a b = some d := by simp only [eqaF, and_self, if_true, byteD, implies_true, setD, bslF, buildF, buildL, List.zip_cons_cons, List.zip_nil_right, List.zip_nil_left, pureD, rng0, rng1, rng2, rng3, rng4, rng5, rng6, rng7, rng8, List.getD_cons_zero, List.getD_cons_succ, Nat.reduceLeDiff, decide_true, decide_false, List.all_cons, List.all_nil, dqF, nilF, callQ, argsD, Op.operands, Call.operands, evD, cD, gip, upd, look, List.map, List.map_cons, List.map_nil, binF, binI, shI, binS, unF, wD, kLo, kHi, kMod, kBits, convF, loadF, fieldF, faddrF, indexF, iaddrF, lenF, lenD, sliceF, sliceF3, minF, sliceD, cutL, bndF, sub, nc, aggT, aggB, scB, tnth, elems, L_B, L_mk, List.getElem?_cons_zero, List.getElem?_cons_succ, reduceIte, reduceCtorEq, Option.isSome, List.toList_toArray, Nat.reduceAdd, Nat.reduceSub, Nat.reduceMul, Nat.reduceEqDiff, Nat.reduceLT, Nat.reduceBEq, mkF, mkG, Bool.and_true, Bool.true_and, Bool.and_false, Bool.false_and, beq_self_eq_true, mkC, Int.reduceToNat, Int.toNat_natCast, Int.reduceAdd, Int.reduceSub, Int.reduceMul, Nat.zero_add, Nat.add_zero, Nat.mul_one, and_true, true_and, Option.getD_some, Option.getD_none, u32D, u8D, iD, bD, strD, u32_xor, u32_or, u32_and, u32_add, u32_not, u32_shr, u32_shl, u8_u32, u32_u8, envOf, tyT, gtab, hX]; exact rfl) : DRq C ops K (o :: rest) ⟨s, h⟩ := DRq_c t hg hd ht' e (DQ_eqa ho hm hf) k
theorem DR_q2 {C : Cx} {ops : Array Oper} {K : St → Prop} {o : Oper} {rest : List Oper} {s : Nat → D} {h : List (Option Bk)} {p : Prop} {d : D} (t : Nat) (hg : o.guard = none) (hd : o.dst = some t) (ht' : Nat.blt t C.n = true)
    (k : DR C ops K rest ⟨upd s t d, h⟩) (e : dqF C.T h o.op (argsD C ⟨s, h⟩ o) = some (p, d) := by simp only [byteD, implies_true, setD, bslF, buildF, buildL, List.zip_cons_cons, List.zip_nil_right, List.zip_nil_left, pureD, rng0, rng1, rng2, rng3, rng4, rng5, rng6, rng7, rng8, List.getD_cons_zero, List.getD_cons_succ, Nat.reduceLeDiff, decide_true, decide_false, List.all_cons, List.all_nil, dqF, nilF, callQ, argsD, Op.operands, Call.operands, evD, cD, gip, upd, look, List.map, List.map_cons, List.map_nil, binF, binI, shI, binS, unF, wD, kLo, kHi, kMod, kBits, convF, loadF, fieldF, faddrF, indexF, iaddrF, lenF, lenD, sliceF, sliceF3, minF, sliceD, cutL, bndF, sub, nc, aggT, aggB, scB, tnth, elems, L_B, L_mk, List.getElem?_cons_zero, List.getElem?_cons_succ, reduceIte, reduceCtorEq, Option.isSome, List.toList_toArray, Nat.reduceAdd, Nat.reduceSub, Nat.reduceMul, Nat.reduceEqDiff, Nat.reduceLT, Nat.reduceBEq, mkF, mkG, Bool.and_true, Bool.true_and, Bool.and_false, Bool.false_and, beq_self_eq_true, mkC, Int.reduceToNat, Int.toNat_natCast, Int.reduceAdd, Int.reduceSub, Int.reduceMul, Nat.zero_add, Nat.add_zero, Nat.mul_one, and_true, true_and, Option.getD_some, Option.getD_none, u32D, u8D, iD, bD, strD, u32_xor, u32_or, u32_and, u32_add, u32_not, u32_shr, u32_shl, u8_u32, u32_u8, envOf, tyT, gtab, hX]; exact rfl) (hp : p := by first | exact trivial | omega | (simp only [L_B, L_mk, bndF, Option.getD_some, Option.getD_none, List.length_cons, List.length_nil, List.length_append, List.length_map, List.length_range, List.length_drop, List.length_take, List.length_replicate, hX] <;> omega) | (intro d hd; simp only [List.mem_map] at hd; obtain ⟨i, _, rfl⟩ := hd; trivial)) : DR C ops K (o :: rest) ⟨s, h⟩ := DR_q t hg hd ht' e hp k
theorem DRq_q2 {C : Cx} {ops : Array Oper} {K : St → Prop} {o : Oper} {rest : List Oper} {s : Nat → D} {h : List (Option Bk)} {p : Prop} {d : D} (t : Nat) (hg : o.guard = none) (hd : o.dst = some t) (ht' : Nat.blt t C.n = true)
    (k : DRq C ops K rest ⟨upd s t d, h⟩) (e : dqF C.T h o.op (argsD C ⟨s, h⟩ o) = some (p, d) := by simp only [byteD, implies_true, setD, bslF, buildF, buildL, List.zip_cons_cons, List.zip_nil_right, List.zip_nil_left, pureD, rng0, rng1, rng2, rng3, rng4, rng5, rng6, rng7, rng8, List.getD_cons_zero, List.getD_cons_succ, Nat.reduceLeDiff, decide_true, decide_false, List.all_cons, List.all_nil, dqF, nilF, callQ, argsD, Op.operands, Call.operands, evD, cD, gip, upd, look, List.map, List.map_cons, List.map_nil, binF, binI, shI, binS, unF, wD, kLo, kHi, kMod, kBits, convF, loadF, fieldF, faddrF, indexF, iaddrF, lenF, lenD, sliceF, sliceF3, minF, sliceD, cutL, bndF, sub, nc, aggT, aggB, scB, tnth, elems, L_B, L_mk, List.getElem?_cons_zero, List.getElem?_cons_succ, reduceIte, reduceCtorEq, Option.isSome, List.toList_toArray, Nat.reduceAdd, Nat.reduceSub, Nat.reduceMul, Nat.reduceEqDiff, Nat.reduceLT, Nat.reduceBEq, mkF, mkG, Bool.and_true, Bool.true_and, Bool.and_false, Bool.false_and, beq_self_eq_true, mkC, Int.reduceToNat, Int.toNat_natCast, Int.reduceAdd, Int.reduceSub, Int.reduceMul, Nat.zero_add, Nat.add_zero, Nat.mul_one, and_true, true_and, Option.getD_some, Option.getD_none, u32D, u8D, iD, bD, strD, u32_xor, u32_or, u32_and, u32_add, u32_not, u32_shr, u32_shl, u8_u32, u32_u8, envOf, tyT, gtab, hX]; exact rfl) (hp : p := by first | exact trivial | omega | (simp only [L_B, L_mk, bndF, Option.getD_some, Option.getD_none, List.length_cons, List.length_nil, List.length_append, List.length_map, List.length_range, List.length_drop, List.length_take, List.length_replicate, hX] <;> omega) | (intro d hd; simp only [List.mem_map] at hd; obtain ⟨i, _, rfl⟩ := hd; trivial)) : DRq C ops K (o :: rest) ⟨s, h⟩ := DRq_q t hg hd ht' e hp k
theorem DO_append3 {C : Cx} {o : Oper} {st : St} {s x : Operand} {t u el sz l n : Nat} {e : TE} {L es : List D} {p : Prop} (ho : o.op = .call { callee := .builtin .append, args := #[s, x], argTypes := #[t, u] }) (hd : dstB C o = true) (hT : appT C t u el sz e) (hfx : C.fx l = none)
    (hs : evD C st s = .own l n el sz := by simp only [St.put, kilH, kil, kilB, List.map, List.set, List.length, List.nil_append, List.cons_append, List.append_nil, Option.map, storeF, setD, srcD, byteD, byteD, implies_true, setD, bslF, buildF, buildL, List.zip_cons_cons, List.zip_nil_right, List.zip_nil_left, pureD, rng0, rng1, rng2, rng3, rng4, rng5, rng6, rng7, rng8, List.getD_cons_zero, List.getD_cons_succ, Nat.reduceLeDiff, decide_true, decide_false, List.all_cons, List.all_nil, dqF, nilF, callQ, argsD, Op.operands, Call.operands, evD, cD, gip, upd, look, List.map, List.map_cons, List.map_nil, binF, binI, shI, binS, unF, wD, kLo, kHi, kMod, kBits, convF, loadF, fieldF, faddrF, indexF, iaddrF, lenF, lenD, sliceF, sliceF3, minF, sliceD, cutL, bndF, sub, nc, aggT, aggB, scB, tnth, elems, L_B, L_mk, List.getElem?_cons_zero, List.getElem?_cons_succ, reduceIte, reduceCtorEq, Option.isSome, List.toList_toArray, Nat.reduceAdd, Nat.reduceSub, Nat.reduceMul, Nat.reduceEqDiff, Nat.reduceLT, Nat.reduceBEq, mkF, mkG, Bool.and_true, Bool.true_and, Bool.and_false, Bool.false_and, beq_self_eq_true, mkC, Int.reduceToNat, Int.toNat_natCast, Int.reduceAdd, Int.reduceSub, Int.reduceMul, Nat.zero_add, Nat.add_zero, Nat.mul_one, and_true, true_and, Option.getD_some, Option.getD_none, u32D, u8D, iD, bD, strD, u32_xor, u32_or, u32_and, u32_add, u32_not, u32_shr, u32_shl, u8_u32, u32_u8, hX, envOf, tyT, gtab]; exact rfl) (hl : st.h[l]? = some (some (.row L el sz)) := by simp only [St.put, kilH, kil, kilB, List.map, List.set, List.length, List.nil_append, List.cons_append, List.append_nil, Option.map, storeF, setD, srcD, byteD, byteD, implies_true, setD, bslF, buildF, buildL, List.zip_cons_cons, List.zip_nil_right, List.zip_nil_left, pureD, rng0, rng1, rng2, rng3, rng4, rng5, rng6, rng7, rng8, List.getD_cons_zero, List.getD_cons_succ, Nat.reduceLeDiff, decide_true, decide_false, List.all_cons, List.all_nil, dqF, nilF, callQ, argsD, Op.operands, Call.operands, evD, cD, gip, upd, look, List.map, List.map_cons, List.map_nil, binF, binI, shI, binS, unF, wD, kLo, kHi, kMod, kBits, convF, loadF, fieldF, faddrF, indexF, iaddrF, lenF, lenD, sliceF, sliceF3, minF, sliceD, cutL, bndF, sub, nc, aggT, aggB, scB, tnth, elems, L_B, L_mk, List.getElem?_cons_zero, List.getElem?_cons_succ, reduceIte, reduceCtorEq, Option.isSome, List.toList_toArray, Nat.reduceAdd, Nat.reduceSub, Nat.reduceMul, Nat.reduceEqDiff, Nat.reduceLT, Nat.reduceBEq, mkF, mkG, Bool.and_true, Bool.true_and, Bool.and_false, Bool.false_and, beq_self_eq_true, mkC, Int.reduceToNat, Int.toNat_natCast, Int.reduceAdd, Int.reduceSub, Int.reduceMul, Nat.zero_add, Nat.add_zero, Nat.mul_one, and_true, true_and, Option.getD_some, Option.getD_none, u32D, u8D, iD, bD, strD, u32_xor, u32_or, u32_and, u32_add, u32_not, u32_shr, u32_shl, u8_u32, u32_u8, hX, envOf, tyT, gtab]; exact rfl) (hx : srcD st.h (evD C st x) = some (p, es) := by simp only [St.put, kilH, kil, kilB, List.map, List.set, List.length, List.nil_append, List.cons_append, List.append_nil, Option.map, storeF, setD, srcD, byteD, byteD, implies_true, setD, bslF, buildF, buildL, List.zip_cons_cons, List.zip_nil_right, List.zip_nil_left, pureD, rng0, rng1, rng2, rng3, rng4, rng5, rng6, rng7, rng8, List.getD_cons_zero, List.getD_cons_succ, Nat.reduceLeDiff, decide_true, decide_false, List.all_cons, List.all_nil, dqF, nilF, callQ, argsD, Op.operands, Call.operands, evD, cD, gip, upd, look, List.map, List.map_cons, List.map_nil, binF, binI, shI, binS, unF, wD, kLo, kHi, kMod, kBits, convF, loadF, fieldF, faddrF, indexF, iaddrF, lenF, lenD, sliceF, sliceF3, minF, sliceD, cutL, bndF, sub, nc, aggT, aggB, scB, tnth, elems, L_B, L_mk, List.getElem?_cons_zero, List.getElem?_cons_succ, reduceIte, reduceCtorEq, Option.isSome, List.toList_toArray, Nat.reduceAdd, Nat.reduceSub, Nat.reduceMul, Nat.reduceEqDiff, Nat.reduceLT, Nat.reduceBEq, mkF, mkG, Bool.and_true, Bool.true_and, Bool.and_false, Bool.false_and, beq_self_eq_true, mkC, Int.reduceToNat, Int.toNat_natCast, Int.reduceAdd, Int.reduceSub, Int.reduceMul, Nat.zero_add, Nat.add_zero, Nat.mul_one, and_true, true_and, Option.getD_some, Option.getD_none, u32D, u8D, iD, bD, strD, u32_xor, u32_or, u32_and, u32_add, u32_not, u32_shr, u32_shl, u8_u32, u32_u8, hX, envOf, tyT, gtab]; exact rfl) (hn : n = L.length := by first | exact trivial | omega | (intro d hd; simp only [List.mem_cons, List.not_mem_nil, or_false, List.mem_map] at hd; rcases hd with rfl | ⟨_, _, rfl⟩ <;> exact ⟨rfl, rfl⟩) | (intro d hd; simp only [List.mem_cons, List.not_mem_nil, or_false, List.mem_map] at hd; rcases hd with rfl <;> exact ⟨rfl, rfl⟩) | (intro d hd; simp only [List.mem_cons, List.not_mem_nil, or_false] at hd; rcases hd with rfl | rfl <;> exact ⟨rfl, rfl⟩) | (intro d hd; simp only [List.mem_map] at hd; obtain ⟨_, _, rfl⟩ := hd; exact ⟨rfl, rfl⟩) | (simp only [L_B, List.length_append, List.length_cons, List.length_nil, List.length_map, List.length_replicate, List.length_range, hX] <;> omega) | rfl) (hp : p := by first | exact trivial | omega | (intro d hd; simp only [List.mem_cons, List.not_mem_nil, or_false, List.mem_map] at hd; rcases hd with rfl | ⟨_, _, rfl⟩ <;> exact ⟨rfl, rfl⟩) | (intro d hd; simp only [List.mem_cons, List.not_mem_nil, or_false, List.mem_map] at hd; rcases hd with rfl <;> exact ⟨rfl, rfl⟩) | (intro d hd; simp only [List.mem_cons, List.not_mem_nil, or_false] at hd; rcases hd with rfl | rfl <;> exact ⟨rfl, rfl⟩) | (intro d hd; simp only [List.mem_map] at hd; obtain ⟨_, _, rfl⟩ := hd; exact ⟨rfl, rfl⟩) | (simp only [L_B, List.length_append, List.length_cons, List.length_nil, List.length_map, List.length_replicate, List.length_range, hX] <;> omega) | rfl) (hpure : ∀ d ∈ es, pureD d = true ∧ nc d = sz := by first | exact trivial | omega | (intro d hd; simp only [List.mem_cons, List.not_mem_nil, or_false, List.mem_map] at hd; rcases hd with rfl | ⟨_, _, rfl⟩ <;> exact ⟨rfl, rfl⟩) | (intro d hd; simp only [List.mem_cons, List.not_mem_nil, or_false, List.mem_map] at hd; rcases hd with rfl <;> exact ⟨rfl, rfl⟩) | (intro d hd; simp only [List.mem_cons, List.not_mem_nil, or_false] at hd; rcases hd with rfl | rfl <;> exact ⟨rfl, rfl⟩) | (intro d hd; simp only [List.mem_map] at hd; obtain ⟨_, _, rfl⟩ := hd; exact ⟨rfl, rfl⟩) | (simp only [L_B, List.length_append, List.length_cons, List.length_nil, List.length_map, List.length_replicate, List.length_range, hX] <;> omega) | rfl) (hb : (L.length + es.length) * e.bytes ≤ 140737488355328 := by first | exact trivial | omega | (intro d hd; simp only [List.mem_cons, List.not_mem_nil, or_false, List.mem_map] at hd; rcases hd with rfl | ⟨_, _, rfl⟩ <;> exact ⟨rfl, rfl⟩) | (intro d hd; simp only [List.mem_cons, List.not_mem_nil, or_false, List.mem_map] at hd; rcases hd with rfl <;> exact ⟨rfl, rfl⟩) | (intro d hd; simp only [List.mem_cons, List.not_mem_nil, or_false] at hd; rcases hd with rfl | rfl <;> exact ⟨rfl, rfl⟩) | (intro d hd; simp only [List.mem_map] at hd; obtain ⟨_, _, rfl⟩ := hd; exact ⟨rfl, rfl⟩) | (simp only [L_B, List.length_append, List.length_cons, List.length_nil, List.length_map, List.length_replicate, List.length_range, hX] <;> omega) | rfl) :
    DO C o st (St.put ⟨fun t => kil l (st.s t), (kilH l st.h).set l (some (.row (L ++ es) el sz))⟩ o.dst (.own l (n + es.length) el sz)) := DO_append2 ho hd hT hfx hs hl hx hn hp hpure hb
theorem DO_append_nil3 {C : Cx} {o : Oper} {st : St} {s x : Operand} {t u el sz : Nat} {e : TE} {es : List D} {p : Prop} (ho : o.op = .call { callee := .builtin .append, args := #[s, x], argTypes := #[t, u] }) (hd : dstB C o = true) (hT : appT C t u el sz e)
    (hs : evD C st s = .v (.slice none 0 0) := by simp only [St.put, kilH, kil, kilB, List.map, List.set, List.length, List.nil_append, List.cons_append, List.append_nil, Option.map, storeF, setD, srcD, byteD, byteD, implies_true, setD, bslF, buildF, buildL, List.zip_cons_cons, List.zip_nil_right, List.zip_nil_left, pureD, rng0, rng1, rng2, rng3, rng4, rng5, rng6, rng7, rng8, List.getD_cons_zero, List.getD_cons_succ, Nat.reduceLeDiff, decide_true, decide_false, List.all_cons, List.all_nil, dqF, nilF, callQ, argsD, Op.operands, Call.operands, evD, cD, gip, upd, look, List.map, List.map_cons, List.map_nil, binF, binI, shI, binS, unF, wD, kLo, kHi, kMod, kBits, convF, loadF, fieldF, faddrF, indexF, iaddrF, lenF, lenD, sliceF, sliceF3, minF, sliceD, cutL, bndF, sub, nc, aggT, aggB, scB, tnth, elems, L_B, L_mk, List.getElem?_cons_zero, List.getElem?_cons_succ, reduceIte, reduceCtorEq, Option.isSome, List.toList_toArray, Nat.reduceAdd, Nat.reduceSub, Nat.reduceMul, Nat.reduceEqDiff, Nat.reduceLT, Nat.reduceBEq, mkF, mkG, Bool.and_true, Bool.true_and, Bool.and_false, Bool.false_and, beq_self_eq_true, mkC, Int.reduceToNat, Int.toNat_natCast, Int.reduceAdd, Int.reduceSub, Int.reduceMul, Nat.zero_add, Nat.add_zero, Nat.mul_one, and_true, true_and, Option.getD_some, Option.getD_none, u32D, u8D, iD, bD, strD, u32_xor, u32_or, u32_and, u32_add, u32_not, u32_shr, u32_shl, u8_u32, u32_u8, hX, envOf, tyT, gtab]; exact rfl) (hx : srcD st.h (evD C st x) = some (p, es) := by simp only [St.put, kilH, kil, kilB, List.map, List.set, List.length, List.nil_append, List.cons_append, List.append_nil, Option.map, storeF, setD, srcD, byteD, byteD, implies_true, setD, bslF, buildF, buildL, List.zip_cons_cons, List.zip_nil_right, List.zip_nil_left, pureD, rng0, rng1, rng2, rng3, rng4, rng5, rng6, rng7, rng8, List.getD_cons_zero, List.getD_cons_succ, Nat.reduceLeDiff, decide_true, decide_false, List.all_cons, List.all_nil, dqF, nilF, callQ, argsD, Op.operands, Call.operands, evD, cD, gip, upd, look, List.map, List.map_cons, List.map_nil, binF, binI, shI, binS, unF, wD, kLo, kHi, kMod, kBits, convF, loadF, fieldF, faddrF, indexF, iaddrF, lenF, lenD, sliceF, sliceF3, minF, sliceD, cutL, bndF, sub, nc, aggT, aggB, scB, tnth, elems, L_B, L_mk, List.getElem?_cons_zero, List.getElem?_cons_succ, reduceIte, reduceCtorEq, Option.isSome, List.toList_toArray, Nat.reduceAdd, Nat.reduceSub, Nat.reduceMul, Nat.reduceEqDiff, Nat.reduceLT, Nat.reduceBEq, mkF, mkG, Bool.and_true, Bool.true_and, Bool.and_false, Bool.false_and, beq_self_eq_true, mkC, Int.reduceToNat, Int.toNat_natCast, Int.reduceAdd, Int.reduceSub, Int.reduceMul, Nat.zero_add, Nat.add_zero, Nat.mul_one, and_true, true_and, Option.getD_some, Option.getD_none, u32D, u8D, iD, bD, strD, u32_xor, u32_or, u32_and, u32_add, u32_not, u32_shr, u32_shl, u8_u32, u32_u8, hX, envOf, tyT, gtab]; exact rfl) (hp : p := by first | exact trivial | omega | (intro d hd; simp only [List.mem_cons, List.not_mem_nil, or_false, List.mem_map] at hd; rcases hd with rfl | ⟨_, _, rfl⟩ <;> exact ⟨rfl, rfl⟩) | (intro d hd; simp only [List.mem_cons, List.not_mem_nil, or_false, List.mem_map] at hd; rcases hd with rfl <;> exact ⟨rfl, rfl⟩) | (intro d hd; simp only [List.mem_cons, List.not_mem_nil, or_false] at hd; rcases hd with rfl | rfl <;> exact ⟨rfl, rfl⟩) | (intro d hd; simp only [List.mem_map] at hd; obtain ⟨_, _, rfl⟩ := hd; exact ⟨rfl, rfl⟩) | (simp only [L_B, List.length_append, List.length_cons, List.length_nil, List.length_map, List.length_replicate, List.length_range, hX] <;> omega) | rfl) (hpure : ∀ d ∈ es, pureD d = true ∧ nc d = sz := by first | exact trivial | omega | (intro d hd; simp only [List.mem_cons, List.not_mem_nil, or_false, List.mem_map] at hd; rcases hd with rfl | ⟨_, _, rfl⟩ <;> exact ⟨rfl, rfl⟩) | (intro d hd; simp only [List.mem_cons, List.not_mem_nil, or_false, List.mem_map] at hd; rcases hd with rfl <;> exact ⟨rfl, rfl⟩) | (intro d hd; simp only [List.mem_cons, List.not_mem_nil, or_false] at hd; rcases hd with rfl | rfl <;> exact ⟨rfl, rfl⟩) | (intro d hd; simp only [List.mem_map] at hd; obtain ⟨_, _, rfl⟩ := hd; exact ⟨rfl, rfl⟩) | (simp only [L_B, List.length_append, List.length_cons, List.length_nil, List.length_map, List.length_replicate, List.length_range, hX] <;> omega) | rfl) (hb : es.length * e.bytes ≤ 140737488355328 := by first | exact trivial | omega | (intro d hd; simp only [List.mem_cons, List.not_mem_nil, or_false, List.mem_map] at hd; rcases hd with rfl | ⟨_, _, rfl⟩ <;> exact ⟨rfl, rfl⟩) | (intro d hd; simp only [List.mem_cons, List.not_mem_nil, or_false, List.mem_map] at hd; rcases hd with rfl <;> exact ⟨rfl, rfl⟩) | (intro d hd; simp only [List.mem_cons, List.not_mem_nil, or_false] at hd; rcases hd with rfl | rfl <;> exact ⟨rfl, rfl⟩) | (intro d hd; simp only [List.mem_map] at hd; obtain ⟨_, _, rfl⟩ := hd; exact ⟨rfl, rfl⟩) | (simp only [L_B, List.length_append, List.length_cons, List.length_nil, List.length_map, List.length_replicate, List.length_range, hX] <;> omega) | rfl) :
    DO C o st (St.put ⟨st.s, st.h ++ [some (.row es el sz)]⟩ o.dst (.own st.h.length es.length el sz)) := DO_append_nil ho hd hT hs hx hp hpure hb
theorem DO_conv_own3 {C : Cx} {o : Oper} {st : St} {s t el : Nat} {x : Operand} {str : ByteArray} (ho : o.op = .convert s t x) (hd : dstB C o = true) (hS : isStrT C.T s = true) (hT : isU8T C.T t = some el) (hx : evD C st x = .v (.string str) := by simp only [St.put, kilH, kil, kilB, List.map, List.set, List.length, List.nil_append, List.cons_append, List.append_nil, Option.map, storeF, setD, srcD, byteD, byteD, implies_true, setD, bslF, buildF, buildL, List.zip_cons_cons, List.zip_nil_right, List.zip_nil_left, pureD, rng0, rng1, rng2, rng3, rng4, rng5, rng6, rng7, rng8, List.getD_cons_zero, List.getD_cons_succ, Nat.reduceLeDiff, decide_true, decide_false, List.all_cons, List.all_nil, dqF, nilF, callQ, argsD, Op.operands, Call.operands, evD, cD, gip, upd, look, List.map, List.map_cons, List.map_nil, binF, binI, shI, binS, unF, wD, kLo, kHi, kMod, kBits, convF, loadF, fieldF, faddrF, indexF, iaddrF, lenF, lenD, sliceF, sliceF3, minF, sliceD, cutL, bndF, sub, nc, aggT, aggB, scB, tnth, elems, L_B, L_mk, List.getElem?_cons_zero, List.getElem?_cons_succ, reduceIte, reduceCtorEq, Option.isSome, List.toList_toArray, Nat.reduceAdd, Nat.reduceSub, Nat.reduceMul, Nat.reduceEqDiff, Nat.reduceLT, Nat.reduceBEq, mkF, mkG, Bool.and_true, Bool.true_and, Bool.and_false, Bool.false_and, beq_self_eq_true, mkC, Int.reduceToNat, Int.toNat_natCast, Int.reduceAdd, Int.reduceSub, Int.reduceMul, Nat.zero_add, Nat.add_zero, Nat.mul_one, and_true, true_and, Option.getD_some, Option.getD_none, u32D, u8D, iD, bD, strD, u32_xor, u32_or, u32_and, u32_add, u32_not, u32_shr, u32_shl, u8_u32, u32_u8, hX, envOf, tyT, gtab]; exact rfl) (hb : (L str).length ≤ 140737488355328 := by first | exact trivial | omega | (intro d hd; simp only [List.mem_cons, List.not_mem_nil, or_false, List.mem_map] at hd; rcases hd with rfl | ⟨_, _, rfl⟩ <;> exact ⟨rfl, rfl⟩) | (intro d hd; simp only [List.mem_cons, List.not_mem_nil, or_false, List.mem_map] at hd; rcases hd with rfl <;> exact ⟨rfl, rfl⟩) | (intro d hd; simp only [List.mem_cons, List.not_mem_nil, or_false] at hd; rcases hd with rfl | rfl <;> exact ⟨rfl, rfl⟩) | (intro d hd; simp only [List.mem_map] at hd; obtain ⟨_, _, rfl⟩ := hd; exact ⟨rfl, rfl⟩) | (simp only [L_B, List.length_append, List.length_cons, List.length_nil, List.length_map, List.length_replicate, List.length_range, hX] <;> omega) | rfl) :
    DO C o st (St.put ⟨st.s, st.h ++ [some (.row ((L str).map byteD) el 1)]⟩ o.dst (.own st.h.length (L str).length el 1)) := DO_conv_own ho hd hS hT hx hb
end Go.Proofs.YtedioenakmgdiaaDoor

namespace Go.Proofs.YtedioenakmgdiaaDoor
set_option linter.unusedSimpArgs false
set_option linter.unusedVariables false
set_option maxRecDepth 10000
open Go.RowKit
theorem mkG_eq (E : Env) (n : Nat) (w0 : World) (A S0 : Nat → Prop) (fx : Nat → Option Nat) : mkG E n w0 A S0 fx = ⟨E.P, E.T, E.tab, E.gN, n, w0, A, S0, fx⟩ := rfl
section
variable {C : Cx} {ops : Array Oper} {K : St → Prop} {o o' : Oper} {rest : List Oper} {s : Nat → D} {h : List (Option Bk)} {p : Prop} {d : D}
theorem qx (t : Nat) (hg : o.guard = none) (hd : o.dst = some t) (ht' : Nat.blt t C.n = true) (k : DR C ops K rest ⟨upd s t d, h⟩) (e : dqF C.T h o.op (argsD C ⟨s, h⟩ o) = some (p, d) := by simp only [byteD, implies_true, setD, bslF, buildF, buildL, List.zip_cons_cons, List.zip_nil_right, List.zip_nil_left, pureD, rng0, rng1, rng2, rng3, rng4, rng5, rng6, rng7, rng8, List.getD_cons_zero, List.getD_cons_succ, Nat.reduceLeDiff, decide_true, decide_false, List.all_cons, List.all_nil, dqF, nilF, callQ, argsD, Op.operands, Call.operands, evD, cD, gip, upd, look, List.map, List.map_cons, List.map_nil, binF, binI, shI, binS, unF, wD, kLo, kHi, kMod, kBits, convF, loadF, fieldF, faddrF, indexF, iaddrF, lenF, lenD, sliceF, sliceF3, minF, sliceD, cutL, bndF, sub, nc, aggT, aggB, scB, tnth, elems, L_B, L_mk, List.getElem?_cons_zero, List.getElem?_cons_succ, reduceIte, reduceCtorEq, Option.isSome, List.toList_toArray, Nat.reduceAdd, Nat.reduceSub, Nat.reduceMul, Nat.reduceEqDiff, Nat.reduceLT, Nat.reduceBEq, mkF, mkG, Bool.and_true, Bool.true_and, Bool.and_false, Bool.false_and, beq_self_eq_true, mkC, Int.reduceToNat, Int.toNat_natCast, Int.reduceAdd, Int.reduceSub, Int.reduceMul, Nat.zero_add, Nat.add_zero, Nat.mul_one, and_true, true_and, Option.getD_some, Option.getD_none, ne_eq, not_true_eq_false, not_false_eq_true, decide_not, Bool.not_true, Bool.not_false, Int.reduceLT, Int.reduceLE, Int.reduceEq, Int.reduceNe, Int.reduceGT, Int.reduceGE, gt_iff_lt, ge_iff_le, Nat.reduceLT, Nat.reduceLeDiff, u32D, u8D, iD, bD, strD, u32_xor, u32_or, u32_and, u32_add, u32_not, u32_shr, u32_shl, u8_u32, u32_u8, envOf, tyT, gtab, hX]; exact rfl)
    (hp : p := by (repeat' (with_reducible apply And.intro)) <;> first | (with_reducible exact True.intro) | omega | (simp only [L_B, L_mk, bndF, Option.getD_some, Option.getD_none, List.length_cons, List.length_nil, List.length_append, List.length_map, List.length_range, List.length_drop, List.length_take, List.length_replicate, List.length_set, List.length_reverse, hX] <;> omega) | (intro d hd; simp only [List.mem_cons, List.not_mem_nil, or_false] at hd; (first | (subst hd; first | trivial | exact ⟨rfl, rfl⟩) | (rcases hd with rfl | rfl <;> first | trivial | exact ⟨rfl, rfl⟩) | (rcases hd with rfl | rfl | rfl <;> first | trivial | exact ⟨rfl, rfl⟩) | (rcases hd with rfl | rfl | rfl | rfl <;> first | trivial | exact ⟨rfl, rfl⟩))) | (intro d hd; simp only [List.mem_map, List.mem_cons, List.not_mem_nil, or_false] at hd; obtain ⟨i, _, rfl⟩ := hd; first | trivial | exact ⟨rfl, rfl⟩) | (intro d hd; simp only [List.mem_append, List.mem_map, List.mem_cons, List.not_mem_nil, or_false] at hd; rcases hd with ⟨i, _, rfl⟩ | rfl <;> first | trivial | exact ⟨rfl, rfl⟩) | (intro i hi; rfl) | rfl) : DR C ops K (o :: rest) ⟨s, h⟩ := DR_q t hg hd ht' e hp k
theorem qxq (t : Nat) (hg : o.guard = none) (hd : o.dst = some t) (ht' : Nat.blt t C.n = true) (k : DRq C ops K rest ⟨upd s t d, h⟩) (e : dqF C.T h o.op (argsD C ⟨s, h⟩ o) = some (p, d) := by simp only [byteD, implies_true, setD, bslF, buildF, buildL, List.zip_cons_cons, List.zip_nil_right, List.zip_nil_left, pureD, rng0, rng1, rng2, rng3, rng4, rng5, rng6, rng7, rng8, List.getD_cons_zero, List.getD_cons_succ, Nat.reduceLeDiff, decide_true, decide_false, List.all_cons, List.all_nil, dqF, nilF, callQ, argsD, Op.operands, Call.operands, evD, cD, gip, upd, look, List.map, List.map_cons, List.map_nil, binF, binI, shI, binS, unF, wD, kLo, kHi, kMod, kBits, convF, loadF, fieldF, faddrF, indexF, iaddrF, lenF, lenD, sliceF, sliceF3, minF, sliceD, cutL, bndF, sub, nc, aggT, aggB, scB, tnth, elems, L_B, L_mk, List.getElem?_cons_zero, List.getElem?_cons_succ, reduceIte, reduceCtorEq, Option.isSome, List.toList_toArray, Nat.reduceAdd, Nat.reduceSub, Nat.reduceMul, Nat.reduceEqDiff, Nat.reduceLT, Nat.reduceBEq, mkF, mkG, Bool.and_true, Bool.true_and, Bool.and_false, Bool.false_and, beq_self_eq_true, mkC, Int.reduceToNat, Int.toNat_natCast, Int.reduceAdd, Int.reduceSub, Int.reduceMul, Nat.zero_add, Nat.add_zero, Nat.mul_one, and_true, true_and, Option.getD_some, Option.getD_none, ne_eq, not_true_eq_false, not_false_eq_true, decide_not, Bool.not_true, Bool.not_false, Int.reduceLT, Int.reduceLE, Int.reduceEq, Int.reduceNe, Int.reduceGT, Int.reduceGE, gt_iff_lt, ge_iff_le, Nat.reduceLT, Nat.reduceLeDiff, u32D, u8D, iD, bD, strD, u32_xor, u32_or, u32_and, u32_add, u32_not, u32_shr, u32_shl, u8_u32, u32_u8, envOf, tyT, gtab, hX]; exact rfl)
    (hp : p := by (repeat' (with_reducible apply And.intro)) <;> first | (with_reducible exact True.intro) | omega | (simp only [L_B, L_mk, bndF, Option.getD_some, Option.getD_none, List.length_cons, List.length_nil, List.length_append, List.length_map, List.length_range, List.length_drop, List.length_take, List.length_replicate, List.length_set, List.length_reverse, hX] <;> omega) | (intro d hd; simp only [List.mem_cons, List.not_mem_nil, or_false] at hd; (first | (subst hd; first | trivial | exact ⟨rfl, rfl⟩) | (rcases hd with rfl | rfl <;> first | trivial | exact ⟨rfl, rfl⟩) | (rcases hd with rfl | rfl | rfl <;> first | trivial | exact ⟨rfl, rfl⟩) | (rcases hd with rfl | rfl | rfl | rfl <;> first | trivial | exact ⟨rfl, rfl⟩))) | (intro d hd; simp only [List.mem_map, List.mem_cons, List.not_mem_nil, or_false] at hd; obtain ⟨i, _, rfl⟩ := hd; first | trivial | exact ⟨rfl, rfl⟩) | (intro d hd; simp only [List.mem_append, List.mem_map, List.mem_cons, List.not_mem_nil, or_false] at hd; rcases hd with ⟨i, _, rfl⟩ | rfl <;> first | trivial | exact ⟨rfl, rfl⟩) | (intro i hi; rfl) | rfl) : DRq C ops K (o :: rest) ⟨s, h⟩ := DRq_q t hg hd ht' e hp k
theorem cx {E : Env} {f : FuncId} {g : Operand} {args : Array Operand} {ts : Array TypeId} {xs : List D} (t : Nat) (hE : EnvC E C) (hg : o.guard = none) (hd : o.dst = some t) (ht' : Nat.blt t C.n = true)
    (ho : o.op = .call { callee := .value g, args := args, argTypes := ts }) (hf : fnB C.P f = true)
    (k : DR C ops K rest ⟨upd s t d, h⟩) (e : argsD C ⟨s, h⟩ o = .fn f .nil :: xs := by simp only [Array.toList_append, List.cons_append, List.nil_append, byteD, implies_true, setD, bslF, buildF, buildL, List.zip_cons_cons, List.zip_nil_right, List.zip_nil_left, pureD, rng0, rng1, rng2, rng3, rng4, rng5, rng6, rng7, rng8, List.getD_cons_zero, List.getD_cons_succ, Nat.reduceLeDiff, decide_true, decide_false, List.all_cons, List.all_nil, dqF, nilF, callQ, argsD, Op.operands, Call.operands, evD, cD, gip, upd, look, List.map, List.map_cons, List.map_nil, binF, binI, shI, binS, unF, wD, kLo, kHi, kMod, kBits, convF, loadF, fieldF, faddrF, indexF, iaddrF, lenF, lenD, sliceF, sliceF3, minF, sliceD, cutL, bndF, sub, nc, aggT, aggB, scB, tnth, elems, L_B, L_mk, List.getElem?_cons_zero, List.getElem?_cons_succ, reduceIte, reduceCtorEq, Option.isSome, List.toList_toArray, Nat.reduceAdd, Nat.reduceSub, Nat.reduceMul, Nat.reduceEqDiff, Nat.reduceLT, Nat.reduceBEq, mkF, mkG, Bool.and_true, Bool.true_and, Bool.and_false, Bool.false_and, beq_self_eq_true, mkC, Int.reduceToNat, Int.toNat_natCast, Int.reduceAdd, Int.reduceSub, Int.reduceMul, Nat.zero_add, Nat.add_zero, Nat.mul_one, and_true, true_and, Option.getD_some, Option.getD_none, ne_eq, not_true_eq_false, not_false_eq_true, decide_not, Bool.not_true, Bool.not_false, Int.reduceLT, Int.reduceLE, Int.reduceEq, Int.reduceNe, Int.reduceGT, Int.reduceGE, gt_iff_lt, ge_iff_le, Nat.reduceLT, Nat.reduceLeDiff, u32D, u8D, iD, bD, strD, u32_xor, u32_or, u32_and, u32_add, u32_not, u32_shr, u32_shl, u8_u32, u32_u8, envOf, tyT, gtab, hX]; exact rfl) (hx : xs.all pureD = true := by rfl) (hc : PC E f xs d) : DR C ops K (o :: rest) ⟨s, h⟩ := DR_c t hg hd ht' e (DQ_call1 hE ho hf hx hc) k
theorem cxq {E : Env} {f : FuncId} {g : Operand} {args : Array Operand} {ts : Array TypeId} {xs : List D} (t : Nat) (hE : EnvC E C) (hg : o.guard = none) (hd : o.dst = some t) (ht' : Nat.blt t C.n = true)
    (ho : o.op = .call { callee := .value g, args := args, argTypes := ts }) (hf : fnB C.P f = true)
    (k : DRq C ops K rest ⟨upd s t d, h⟩) (e : argsD C ⟨s, h⟩ o = .fn f .nil :: xs := by simp only [Array.toList_append, List.cons_append, List.nil_append, byteD, implies_true, setD, bslF, buildF, buildL, List.zip_cons_cons, List.zip_nil_right, List.zip_nil_left, pureD, rng0, rng1, rng2, rng3, rng4, rng5, rng6, rng7, rng8, List.getD_cons_zero, List.getD_cons_succ, Nat.reduceLeDiff, decide_true, decide_false, List.all_cons, List.all_nil, dqF, nilF, callQ, argsD, Op.operands, Call.operands, evD, cD, gip, upd, look, List.map, List.map_cons, List.map_nil, binF, binI, shI, binS, unF, wD, kLo, kHi, kMod, kBits, convF, loadF, fieldF, faddrF, indexF, iaddrF, lenF, lenD, sliceF, sliceF3, minF, sliceD, cutL, bndF, sub, nc, aggT, aggB, scB, tnth, elems, L_B, L_mk, List.getElem?_cons_zero, List.getElem?_cons_succ, reduceIte, reduceCtorEq, Option.isSome, List.toList_toArray, Nat.reduceAdd, Nat.reduceSub, Nat.reduceMul, Nat.reduceEqDiff, Nat.reduceLT, Nat.reduceBEq, mkF, mkG, Bool.and_true, Bool.true_and, Bool.and_false, Bool.false_and, beq_self_eq_true, mkC, Int.reduceToNat, Int.toNat_natCast, Int.reduceAdd, Int.reduceSub, Int.reduceMul, Nat.zero_add, Nat.add_zero, Nat.mul_one, and_true, true_and, Option.getD_some, Option.getD_none, ne_eq, not_true_eq_false, not_false_eq_true, decide_not, Bool.not_true, Bool.not_false, Int.reduceLT, Int.reduceLE, Int.reduceEq, Int.reduceNe, Int.reduceGT, Int.reduceGE, gt_iff_lt, ge_iff_le, Nat.reduceLT, Nat.reduceLeDiff, u32D, u8D, iD, bD, strD, u32_xor, u32_or, u32_and, u32_add, u32_not, u32_shr, u32_shl, u8_u32, u32_u8, envOf, tyT, gtab, hX]; exact rfl) (hx : xs.all pureD = true := by rfl) (hc : PC E f xs d) : DRq C ops K (o :: rest) ⟨s, h⟩ := DRq_c t hg hd ht' e (DQ_call1 hE ho hf hx hc) k
theorem ex {st st' st'' : St} (hg : o.guard = none) (hD : DO C o st st') (k : DR C ops K rest st'') (e : st' = st'' := by simp only [St.put, kilH, kilB, kil, List.map_cons, List.map_nil, List.set, List.length, List.nil_append, List.cons_append, List.append_nil, Option.map, L_B, Nat.reduceAdd, Nat.zero_add, reduceIte, Nat.reduceEqDiff, hX]; exact rfl) : DR C ops K (o :: rest) st := DR_e hg hD e k
theorem kl1 {live : List Nat} {K : St → Prop} {l : List (Nat × D)} (k : K (mk l h)) (e : pick s live = l := by simp only [pick, kil, byteD, implies_true, setD, bslF, buildF, buildL, List.zip_cons_cons, List.zip_nil_right, List.zip_nil_left, pureD, rng0, rng1, rng2, rng3, rng4, rng5, rng6, rng7, rng8, List.getD_cons_zero, List.getD_cons_succ, Nat.reduceLeDiff, decide_true, decide_false, List.all_cons, List.all_nil, dqF, nilF, callQ, argsD, Op.operands, Call.operands, evD, cD, gip, upd, look, List.map, List.map_cons, List.map_nil, binF, binI, shI, binS, unF, wD, kLo, kHi, kMod, kBits, convF, loadF, fieldF, faddrF, indexF, iaddrF, lenF, lenD, sliceF, sliceF3, minF, sliceD, cutL, bndF, sub, nc, aggT, aggB, scB, tnth, elems, L_B, L_mk, List.getElem?_cons_zero, List.getElem?_cons_succ, reduceIte, reduceCtorEq, Option.isSome, List.toList_toArray, Nat.reduceAdd, Nat.reduceSub, Nat.reduceMul, Nat.reduceEqDiff, Nat.reduceLT, Nat.reduceBEq, mkF, mkG, Bool.and_true, Bool.true_and, Bool.and_false, Bool.false_and, beq_self_eq_true, mkC, Int.reduceToNat, Int.toNat_natCast, Int.reduceAdd, Int.reduceSub, Int.reduceMul, Nat.zero_add, Nat.add_zero, Nat.mul_one, and_true, true_and, Option.getD_some, Option.getD_none, ne_eq, not_true_eq_false, not_false_eq_true, decide_not, Bool.not_true, Bool.not_false, Int.reduceLT, Int.reduceLE, Int.reduceEq, Int.reduceNe, Int.reduceGT, Int.reduceGE, gt_iff_lt, ge_iff_le, Nat.reduceLT, Nat.reduceLeDiff, u32D, u8D, iD, bD, strD, u32_xor, u32_or, u32_and, u32_add, u32_not, u32_shr, u32_shl, u8_u32, u32_u8, hX]; exact rfl) : KL live K ⟨s, h⟩ := fun l' hl => by
  have : l' = l := by rw [← hl]; exact e
  rw [this]; exact k
/-- a guarded operation, both ways -/
theorem gsx {g u t : Nat} {want b : Bool} (hg : o.guard = some (g, want)) (hu : (ops[g]?).bind (·.dst) = some u) (hd : o.dst = some t) (ht' : Nat.blt t C.n = true)
    (kT : b = want → DR C ops K (o' :: rest) ⟨upd s u (.v (.bool want)), h⟩) (kF : b = (!want) → DR C ops K rest ⟨upd (upd s u (.v (.bool (!want)))) t unD, h⟩)
    (hs : s u = .v (.bool b) := by simp only [byteD, implies_true, setD, bslF, buildF, buildL, List.zip_cons_cons, List.zip_nil_right, List.zip_nil_left, pureD, rng0, rng1, rng2, rng3, rng4, rng5, rng6, rng7, rng8, List.getD_cons_zero, List.getD_cons_succ, Nat.reduceLeDiff, decide_true, decide_false, List.all_cons, List.all_nil, dqF, nilF, callQ, argsD, Op.operands, Call.operands, evD, cD, gip, upd, look, List.map, List.map_cons, List.map_nil, binF, binI, shI, binS, unF, wD, kLo, kHi, kMod, kBits, convF, loadF, fieldF, faddrF, indexF, iaddrF, lenF, lenD, sliceF, sliceF3, minF, sliceD, cutL, bndF, sub, nc, aggT, aggB, scB, tnth, elems, L_B, L_mk, List.getElem?_cons_zero, List.getElem?_cons_succ, reduceIte, reduceCtorEq, Option.isSome, List.toList_toArray, Nat.reduceAdd, Nat.reduceSub, Nat.reduceMul, Nat.reduceEqDiff, Nat.reduceLT, Nat.reduceBEq, mkF, mkG, Bool.and_true, Bool.true_and, Bool.and_false, Bool.false_and, beq_self_eq_true, mkC, Int.reduceToNat, Int.toNat_natCast, Int.reduceAdd, Int.reduceSub, Int.reduceMul, Nat.zero_add, Nat.add_zero, Nat.mul_one, and_true, true_and, Option.getD_some, Option.getD_none, ne_eq, not_true_eq_false, not_false_eq_true, decide_not, Bool.not_true, Bool.not_false, Int.reduceLT, Int.reduceLE, Int.reduceEq, Int.reduceNe, Int.reduceGT, Int.reduceGE, gt_iff_lt, ge_iff_le, Nat.reduceLT, Nat.reduceLeDiff, u32D, u8D, iD, bD, strD, u32_xor, u32_or, u32_and, u32_add, u32_not, u32_shr, u32_shl, u8_u32, u32_u8, hX] <;> exact rfl) (e : unguard o = o' := by simp only [unguard]; exact rfl) : DR C ops K (o :: rest) ⟨s, h⟩ := by
  have hsu : ∀ c, b = c → upd s u (.v (.bool c)) = s := fun c hc => by
    funext i
    simp only [upd]
    split
    · rename_i hi; subst hi; rw [hs, hc]
    · rfl
  subst e
  by_cases hb : b = want
  · have := kT hb
    rw [hsu _ hb] at this
    exact DR_g hg hu (by rw [hs, hb]) this
  · have hb' : b = (!want) := by cases b <;> cases want <;> simp_all
    have := kF hb'
    rw [hsu _ hb'] at this
    exact DR_skip hg hu hd ht' (by rw [hs, hb']) this
theorem gsxq {g u t : Nat} {want b : Bool} (hg : o.guard = some (g, want)) (hu : (ops[g]?).bind (·.dst) = some u) (hd : o.dst = some t) (ht' : Nat.blt t C.n = true)
    (kT : b = want → DRq C ops K (o' :: rest) ⟨upd s u (.v (.bool want)), h⟩) (kF : b = (!want) → DRq C ops K rest ⟨upd (upd s u (.v (.bool (!want)))) t unD, h⟩)
    (hs : s u = .v (.bool b) := by simp only [byteD, implies_true, setD, bslF, buildF, buildL, List.zip_cons_cons, List.zip_nil_right, List.zip_nil_left, pureD, rng0, rng1, rng2, rng3, rng4, rng5, rng6, rng7, rng8, List.getD_cons_zero, List.getD_cons_succ, Nat.reduceLeDiff, decide_true, decide_false, List.all_cons, List.all_nil, dqF, nilF, callQ, argsD, Op.operands, Call.operands, evD, cD, gip, upd, look, List.map, List.map_cons, List.map_nil, binF, binI, shI, binS, unF, wD, kLo, kHi, kMod, kBits, convF, loadF, fieldF, faddrF, indexF, iaddrF, lenF, lenD, sliceF, sliceF3, minF, sliceD, cutL, bndF, sub, nc, aggT, aggB, scB, tnth, elems, L_B, L_mk, List.getElem?_cons_zero, List.getElem?_cons_succ, reduceIte, reduceCtorEq, Option.isSome, List.toList_toArray, Nat.reduceAdd, Nat.reduceSub, Nat.reduceMul, Nat.reduceEqDiff, Nat.reduceLT, Nat.reduceBEq, mkF, mkG, Bool.and_true, Bool.true_and, Bool.and_false, Bool.false_and, beq_self_eq_true, mkC, Int.reduceToNat, Int.toNat_natCast, Int.reduceAdd, Int.reduceSub, Int.reduceMul, Nat.zero_add, Nat.add_zero, Nat.mul_one, and_true, true_and, Option.getD_some, Option.getD_none, ne_eq, not_true_eq_false, not_false_eq_true, decide_not, Bool.not_true, Bool.not_false, Int.reduceLT, Int.reduceLE, Int.reduceEq, Int.reduceNe, Int.reduceGT, Int.reduceGE, gt_iff_lt, ge_iff_le, Nat.reduceLT, Nat.reduceLeDiff, u32D, u8D, iD, bD, strD, u32_xor, u32_or, u32_and, u32_add, u32_not, u32_shr, u32_shl, u8_u32, u32_u8, hX] <;> exact rfl) (e : unguard o = o' := by simp only [unguard]; exact rfl) : DRq C ops K (o :: rest) ⟨s, h⟩ := by
  have hsu : ∀ c, b = c → upd s u (.v (.bool c)) = s := fun c hc => by
    funext i
    simp only [upd]
    split
    · rename_i hi; subst hi; rw [hs, hc]
    · rfl
  subst e
  by_cases hb : b = want
  · have := kT hb
    rw [hsu _ hb] at this
    exact DRq_g hg hu (by rw [hs, hb]) this
  · have hb' : b = (!want) := by cases b <;> cases want <;> simp_all
    have := kF hb'
    rw [hsu _ hb'] at this
    exact DRq_skip hg hu hd ht' (by rw [hs, hb']) this
theorem gtx {g u : Nat} {want : Bool} (hg : o.guard = some (g, want)) (hu : (ops[g]?).bind (·.dst) = some u) (k : DR C ops K (o' :: rest) ⟨s, h⟩) (e : unguard o = o' := by simp only [unguard]; exact rfl) (hs : s u = .v (.bool want) := by simp only [byteD, implies_true, setD, bslF, buildF, buildL, List.zip_cons_cons, List.zip_nil_right, List.zip_nil_left, pureD, rng0, rng1, rng2, rng3, rng4, rng5, rng6, rng7, rng8, List.getD_cons_zero, List.getD_cons_succ, Nat.reduceLeDiff, decide_true, decide_false, List.all_cons, List.all_nil, dqF, nilF, callQ, argsD, Op.operands, Call.operands, evD, cD, gip, upd, look, List.map, List.map_cons, List.map_nil, binF, binI, shI, binS, unF, wD, kLo, kHi, kMod, kBits, convF, loadF, fieldF, faddrF, indexF, iaddrF, lenF, lenD, sliceF, sliceF3, minF, sliceD, cutL, bndF, sub, nc, aggT, aggB, scB, tnth, elems, L_B, L_mk, List.getElem?_cons_zero, List.getElem?_cons_succ, reduceIte, reduceCtorEq, Option.isSome, List.toList_toArray, Nat.reduceAdd, Nat.reduceSub, Nat.reduceMul, Nat.reduceEqDiff, Nat.reduceLT, Nat.reduceBEq, mkF, mkG, Bool.and_true, Bool.true_and, Bool.and_false, Bool.false_and, beq_self_eq_true, mkC, Int.reduceToNat, Int.toNat_natCast, Int.reduceAdd, Int.reduceSub, Int.reduceMul, Nat.zero_add, Nat.add_zero, Nat.mul_one, and_true, true_and, Option.getD_some, Option.getD_none, ne_eq, not_true_eq_false, not_false_eq_true, decide_not, Bool.not_true, Bool.not_false, Int.reduceLT, Int.reduceLE, Int.reduceEq, Int.reduceNe, Int.reduceGT, Int.reduceGE, gt_iff_lt, ge_iff_le, Nat.reduceLT, Nat.reduceLeDiff, u32D, u8D, iD, bD, strD, u32_xor, u32_or, u32_and, u32_add, u32_not, u32_shr, u32_shl, u8_u32, u32_u8, hX] <;> exact rfl) : DR C ops K (o :: rest) ⟨s, h⟩ := by
  subst e
  exact DR_g hg hu hs k
theorem gtxq {g u : Nat} {want : Bool} (hg : o.guard = some (g, want)) (hu : (ops[g]?).bind (·.dst) = some u) (k : DRq C ops K (o' :: rest) ⟨s, h⟩) (e : unguard o = o' := by simp only [unguard]; exact rfl) (hs : s u = .v (.bool want) := by simp only [byteD, implies_true, setD, bslF, buildF, buildL, List.zip_cons_cons, List.zip_nil_right, List.zip_nil_left, pureD, rng0, rng1, rng2, rng3, rng4, rng5, rng6, rng7, rng8, List.getD_cons_zero, List.getD_cons_succ, Nat.reduceLeDiff, decide_true, decide_false, List.all_cons, List.all_nil, dqF, nilF, callQ, argsD, Op.operands, Call.operands, evD, cD, gip, upd, look, List.map, List.map_cons, List.map_nil, binF, binI, shI, binS, unF, wD, kLo, kHi, kMod, kBits, convF, loadF, fieldF, faddrF, indexF, iaddrF, lenF, lenD, sliceF, sliceF3, minF, sliceD, cutL, bndF, sub, nc, aggT, aggB, scB, tnth, elems, L_B, L_mk, List.getElem?_cons_zero, List.getElem?_cons_succ, reduceIte, reduceCtorEq, Option.isSome, List.toList_toArray, Nat.reduceAdd, Nat.reduceSub, Nat.reduceMul, Nat.reduceEqDiff, Nat.reduceLT, Nat.reduceBEq, mkF, mkG, Bool.and_true, Bool.true_and, Bool.and_false, Bool.false_and, beq_self_eq_true, mkC, Int.reduceToNat, Int.toNat_natCast, Int.reduceAdd, Int.reduceSub, Int.reduceMul, Nat.zero_add, Nat.add_zero, Nat.mul_one, and_true, true_and, Option.getD_some, Option.getD_none, ne_eq, not_true_eq_false, not_false_eq_true, decide_not, Bool.not_true, Bool.not_false, Int.reduceLT, Int.reduceLE, Int.reduceEq, Int.reduceNe, Int.reduceGT, Int.reduceGE, gt_iff_lt, ge_iff_le, Nat.reduceLT, Nat.reduceLeDiff, u32D, u8D, iD, bD, strD, u32_xor, u32_or, u32_and, u32_add, u32_not, u32_shr, u32_shl, u8_u32, u32_u8, hX] <;> exact rfl) : DRq C ops K (o :: rest) ⟨s, h⟩ := by
  subst e
  exact DRq_g hg hu hs k
theorem skx {g u t : Nat} {want : Bool} (hg : o.guard = some (g, want)) (hu : (ops[g]?).bind (·.dst) = some u) (hd : o.dst = some t) (ht' : Nat.blt t C.n = true) (k : DR C ops K rest ⟨upd s t unD, h⟩) (hs : s u = .v (.bool (!want)) := by simp only [byteD, implies_true, setD, bslF, buildF, buildL, List.zip_cons_cons, List.zip_nil_right, List.zip_nil_left, pureD, rng0, rng1, rng2, rng3, rng4, rng5, rng6, rng7, rng8, List.getD_cons_zero, List.getD_cons_succ, Nat.reduceLeDiff, decide_true, decide_false, List.all_cons, List.all_nil, dqF, nilF, callQ, argsD, Op.operands, Call.operands, evD, cD, gip, upd, look, List.map, List.map_cons, List.map_nil, binF, binI, shI, binS, unF, wD, kLo, kHi, kMod, kBits, convF, loadF, fieldF, faddrF, indexF, iaddrF, lenF, lenD, sliceF, sliceF3, minF, sliceD, cutL, bndF, sub, nc, aggT, aggB, scB, tnth, elems, L_B, L_mk, List.getElem?_cons_zero, List.getElem?_cons_succ, reduceIte, reduceCtorEq, Option.isSome, List.toList_toArray, Nat.reduceAdd, Nat.reduceSub, Nat.reduceMul, Nat.reduceEqDiff, Nat.reduceLT, Nat.reduceBEq, mkF, mkG, Bool.and_true, Bool.true_and, Bool.and_false, Bool.false_and, beq_self_eq_true, mkC, Int.reduceToNat, Int.toNat_natCast, Int.reduceAdd, Int.reduceSub, Int.reduceMul, Nat.zero_add, Nat.add_zero, Nat.mul_one, and_true, true_and, Option.getD_some, Option.getD_none, ne_eq, not_true_eq_false, not_false_eq_true, decide_not, Bool.not_true, Bool.not_false, Int.reduceLT, Int.reduceLE, Int.reduceEq, Int.reduceNe, Int.reduceGT, Int.reduceGE, gt_iff_lt, ge_iff_le, Nat.reduceLT, Nat.reduceLeDiff, u32D, u8D, iD, bD, strD, u32_xor, u32_or, u32_and, u32_add, u32_not, u32_shr, u32_shl, u8_u32, u32_u8, hX] <;> exact rfl) : DR C ops K (o :: rest) ⟨s, h⟩ := DR_skip hg hu hd ht' hs k
theorem skxq {g u t : Nat} {want : Bool} (hg : o.guard = some (g, want)) (hu : (ops[g]?).bind (·.dst) = some u) (hd : o.dst = some t) (ht' : Nat.blt t C.n = true) (k : DRq C ops K rest ⟨upd s t unD, h⟩) (hs : s u = .v (.bool (!want)) := by simp only [byteD, implies_true, setD, bslF, buildF, buildL, List.zip_cons_cons, List.zip_nil_right, List.zip_nil_left, pureD, rng0, rng1, rng2, rng3, rng4, rng5, rng6, rng7, rng8, List.getD_cons_zero, List.getD_cons_succ, Nat.reduceLeDiff, decide_true, decide_false, List.all_cons, List.all_nil, dqF, nilF, callQ, argsD, Op.operands, Call.operands, evD, cD, gip, upd, look, List.map, List.map_cons, List.map_nil, binF, binI, shI, binS, unF, wD, kLo, kHi, kMod, kBits, convF, loadF, fieldF, faddrF, indexF, iaddrF, lenF, lenD, sliceF, sliceF3, minF, sliceD, cutL, bndF, sub, nc, aggT, aggB, scB, tnth, elems, L_B, L_mk, List.getElem?_cons_zero, List.getElem?_cons_succ, reduceIte, reduceCtorEq, Option.isSome, List.toList_toArray, Nat.reduceAdd, Nat.reduceSub, Nat.reduceMul, Nat.reduceEqDiff, Nat.reduceLT, Nat.reduceBEq, mkF, mkG, Bool.and_true, Bool.true_and, Bool.and_false, Bool.false_and, beq_self_eq_true, mkC, Int.reduceToNat, Int.toNat_natCast, Int.reduceAdd, Int.reduceSub, Int.reduceMul, Nat.zero_add, Nat.add_zero, Nat.mul_one, and_true, true_and, Option.getD_some, Option.getD_none, ne_eq, not_true_eq_false, not_false_eq_true, decide_not, Bool.not_true, Bool.not_false, Int.reduceLT, Int.reduceLE, Int.reduceEq, Int.reduceNe, Int.reduceGT, Int.reduceGE, gt_iff_lt, ge_iff_le, Nat.reduceLT, Nat.reduceLeDiff, u32D, u8D, iD, bD, strD, u32_xor, u32_or, u32_and, u32_add, u32_not, u32_shr, u32_shl, u8_u32, u32_u8, hX] <;> exact rfl) : DRq C ops K (o :: rest) ⟨s, h⟩ := DRq_skip hg hu hd ht' hs k
/-- .. whose guard was not wanted itself -/
theorem DR_un1 {g u t : Nat} {want : Bool} (hg : o.guard = some (g, want)) (hu : (ops[g]?).bind (·.dst) = some u) (hd : o.dst = some t) (ht' : Nat.blt t C.n = true)
    (k : DR C ops K rest ⟨upd s t unD, h⟩) (hs : s u = unD := by simp only [byteD, implies_true, setD, bslF, buildF, buildL, List.zip_cons_cons, List.zip_nil_right, List.zip_nil_left, pureD, rng0, rng1, rng2, rng3, rng4, rng5, rng6, rng7, rng8, List.getD_cons_zero, List.getD_cons_succ, Nat.reduceLeDiff, decide_true, decide_false, List.all_cons, List.all_nil, dqF, nilF, callQ, argsD, Op.operands, Call.operands, evD, cD, gip, upd, look, List.map, List.map_cons, List.map_nil, binF, binI, shI, binS, unF, wD, kLo, kHi, kMod, kBits, convF, loadF, fieldF, faddrF, indexF, iaddrF, lenF, lenD, sliceF, sliceF3, minF, sliceD, cutL, bndF, sub, nc, aggT, aggB, scB, tnth, elems, L_B, L_mk, List.getElem?_cons_zero, List.getElem?_cons_succ, reduceIte, reduceCtorEq, Option.isSome, List.toList_toArray, Nat.reduceAdd, Nat.reduceSub, Nat.reduceMul, Nat.reduceEqDiff, Nat.reduceLT, Nat.reduceBEq, mkF, mkG, Bool.and_true, Bool.true_and, Bool.and_false, Bool.false_and, beq_self_eq_true, mkC, Int.reduceToNat, Int.toNat_natCast, Int.reduceAdd, Int.reduceSub, Int.reduceMul, Nat.zero_add, Nat.add_zero, Nat.mul_one, and_true, true_and, Option.getD_some, Option.getD_none, ne_eq, not_true_eq_false, not_false_eq_true, decide_not, Bool.not_true, Bool.not_false, Int.reduceLT, Int.reduceLE, Int.reduceEq, Int.reduceNe, Int.reduceGT, Int.reduceGE, gt_iff_lt, ge_iff_le, Nat.reduceLT, Nat.reduceLeDiff, u32D, u8D, iD, bD, strD, u32_xor, u32_or, u32_and, u32_add, u32_not, u32_shr, u32_shl, u8_u32, u32_u8, hX] <;> exact rfl) : DR C ops K (o :: rest) ⟨s, h⟩ := by
  refine .inr ⟨by simp [wantD, hg, hu, hs, unD], by simp only [dstB, hd]; simpa using ht', ?_⟩
  simp only [St.put, hd]
  exact k
theorem DRq_un1 {g u t : Nat} {want : Bool} (hg : o.guard = some (g, want)) (hu : (ops[g]?).bind (·.dst) = some u) (hd : o.dst = some t) (ht' : Nat.blt t C.n = true)
    (k : DRq C ops K rest ⟨upd s t unD, h⟩) (hs : s u = unD := by simp only [byteD, implies_true, setD, bslF, buildF, buildL, List.zip_cons_cons, List.zip_nil_right, List.zip_nil_left, pureD, rng0, rng1, rng2, rng3, rng4, rng5, rng6, rng7, rng8, List.getD_cons_zero, List.getD_cons_succ, Nat.reduceLeDiff, decide_true, decide_false, List.all_cons, List.all_nil, dqF, nilF, callQ, argsD, Op.operands, Call.operands, evD, cD, gip, upd, look, List.map, List.map_cons, List.map_nil, binF, binI, shI, binS, unF, wD, kLo, kHi, kMod, kBits, convF, loadF, fieldF, faddrF, indexF, iaddrF, lenF, lenD, sliceF, sliceF3, minF, sliceD, cutL, bndF, sub, nc, aggT, aggB, scB, tnth, elems, L_B, L_mk, List.getElem?_cons_zero, List.getElem?_cons_succ, reduceIte, reduceCtorEq, Option.isSome, List.toList_toArray, Nat.reduceAdd, Nat.reduceSub, Nat.reduceMul, Nat.reduceEqDiff, Nat.reduceLT, Nat.reduceBEq, mkF, mkG, Bool.and_true, Bool.true_and, Bool.and_false, Bool.false_and, beq_self_eq_true, mkC, Int.reduceToNat, Int.toNat_natCast, Int.reduceAdd, Int.reduceSub, Int.reduceMul, Nat.zero_add, Nat.add_zero, Nat.mul_one, and_true, true_and, Option.getD_some, Option.getD_none, ne_eq, not_true_eq_false, not_false_eq_true, decide_not, Bool.not_true, Bool.not_false, Int.reduceLT, Int.reduceLE, Int.reduceEq, Int.reduceNe, Int.reduceGT, Int.reduceGE, gt_iff_lt, ge_iff_le, Nat.reduceLT, Nat.reduceLeDiff, u32D, u8D, iD, bD, strD, u32_xor, u32_or, u32_and, u32_add, u32_not, u32_shr, u32_shl, u8_u32, u32_u8, hX] <;> exact rfl) : DRq C ops K (o :: rest) ⟨s, h⟩ := by
  refine ⟨unD, by simp only [dstB, hd]; simpa using ht', .inr ⟨by simp [wantD, hg, hu, hs, unD], rfl⟩, ?_⟩
  simp only [St.put, hd]
  exact k
end
theorem DX_args {E : Env} {n : Nat} {pins : List Nat} {γ : Type 1} {M : Md E n pins γ} {r : Option Nat} {c : Code} {Q : Exit → γ → St → Prop} {g : γ} {l l' : List (Nat × D)} {h : List (Option Bk)} (e : l = l') (k : DX M r c Q g (mk l' h)) : DX M r c Q g (mk l h) := by subst e; exact k
end Go.Proofs.YtedioenakmgdiaaDoor

namespace Go.Proofs.YtedioenakmgdiaaDoor
set_option linter.unusedSimpArgs false
set_option linter.unusedVariables false
set_option maxRecDepth 10000
open Go.RowKit

/-- pointers to own blocks, taken for pointers to what does not turn -/
def frzD (h : List (Option Bk)) : D → D
  | .ptr l o => match h[l]? with
    | some (some (.one d)) => if o = 0 ∧ pureD d = true then .ip d else .dead
    | _ => .dead
  | .own _ _ _ _ => .dead
  | .osl _ _ _ => .dead
  | .cons a b => .cons (frzD h a) (frzD h b)
  | .tup ps => .tup (frzD h ps)
  | .fn f caps => .fn f (frzD h caps)
  | d => d
theorem nc_frz (h : List (Option Bk)) (d : D) : nc (frzD h d) = nc d := by
  induction d with
  | cons a b ih1 ih2 => simp only [frzD, nc, ih1, ih2]
  | ptr l o => simp only [frzD]; split <;> (try split) <;> rfl
  | _ => rfl
theorem cell_frz (h : List (Option Bk)) (d : D) : ∀ i, cell (frzD h d) i = frzD h (cell d i) := by
  induction d with
  | cons a b ih1 ih2 =>
    intro i
    simp only [frzD, cell, nc_frz]
    split
    · exact ih1 i
    · exact ih2 _
  | ptr l o => intro i; simp only [frzD, cell]; split <;> (try split) <;> rfl
  | arr => intro i; rfl
  | nil => intro i; rfl
  | _ => intro i; rfl
theorem RI.frz {w : World} {S : Nat → Prop} {x : Value} {d : D} (h : List (Option Bk)) (k : RI w S x d) : RI w S x (frzD h d) := by
  induction k with
  | fn hn _ ih => exact .fn (by rw [nc_frz]; exact hn) fun i hi => by rw [cell_frz]; exact ih i hi
  | v h => exact .v h
  | sl0 => exact .sl0
  | sl sz xs hb hcap hs hx hc _ => exact .sl sz xs hb hcap hs hx hc
  | ip xs hb hx hc _ => exact .ip xs hb hx hc
  | dead h => exact .dead h
/-- where a call is over -/
abbrev FS (C : Cx) (w : World) : Nat → Prop := fun b => (C.A b ∨ C.w0.heap.size ≤ b) ∧ b < w.heap.size
theorem own_old {C : Cx} {h : List (Option Bk)} {bs : List (Option Nat)} {w : World} (hS0 : ∀ b, b < C.w0.heap.size → C.S0 b) (hw : WR C h bs w) {i b : Nat} (hi : bs[i]? = some (some b)) : FS C w b :=
  ⟨.inr (Nat.le_of_not_lt fun hlt => (hw.ok i b hi).2 (hS0 b hlt)), (hw.ok i b hi).1⟩
theorem R1.frz {C : Cx} {h : List (Option Bk)} {bs : List (Option Nat)} {w : World} (hS0 : ∀ b, b < C.w0.heap.size → C.S0 b) (hw : WR C h bs w) {x : Value} {d : D} (k : R1 C w bs x d) : RI w (FS C w) x (frzD h d) := by
  induction k with
  | im k => exact (k.mono fun b hb => ⟨⟨hb.1, hb.2.1⟩, rfl⟩).frz h
  | @ptr l o b hb =>
    simp only [frzD]
    split
    · rename_i d hd
      split
      · rename_i hp
        obtain ⟨rfl, hp⟩ := hp
        obtain ⟨cs, T, fz, h1, h2, h3, h4⟩ := hw.at hd hb
        refine .ip (fun j => cs.getD j undef) (own_old hS0 hw hb) (fun j hj => ?_) (fun j hj => ?_)
        · have hj' : j < cs.size := by omega
          simp [World.cell?, h1, Array.getD_eq_getD_getElem?, hj']
        · have hj' : j < cs.size := by omega
          have := (h4 j hj').pure (pure_cell hp j)
          simpa [Array.getD_eq_getD_getElem?, hj'] using this.mono fun b hb => ⟨⟨hb.1, hb.2.1⟩, rfl⟩
      · exact .dead rfl
    · exact .dead rfl
  | own => exact .dead rfl
  | own0 => exact .dead rfl
  | osl0 => exact .dead rfl
  | osl => exact .dead rfl
  | fn hn _ ih => exact .fn (by rw [nc_frz]; exact hn) fun i hi => by rw [cell_frz]; exact ih i hi
/-- cell by cell -/
def Fin1 (h : List (Option Bk)) (r d : D) : Prop := ∀ (C : Cx) (w : World) (bs : List (Option Nat)) (x : Value), (∀ b, b < C.w0.heap.size → C.S0 b) → WR C h bs w → R1 C w bs x r → RI w (FS C w) x d
theorem Fin1_frz {h : List (Option Bk)} {r d : D} (e : frzD h r = d) : Fin1 h r d := fun _ _ _ _ hS0 hw hx => by subst e; exact hx.frz hS0 hw
theorem Fin1_pure {h : List (Option Bk)} {d : D} (hp : pureD d = true) : Fin1 h d d := fun _ _ _ _ _ _ hx => (hx.pure hp).mono fun b hb => ⟨⟨hb.1, hb.2.1⟩, rfl⟩
theorem Fin1_of {h : List (Option Bk)} {r d : D} (hr : scB r = true) (hd : scB d = true) (k : Fin h r d) : Fin1 h r d := fun C w bs x hS0 hw hx => (RV_sc hd).1 (k C w bs x hS0 hw ((RV_sc hr).2 hx))
theorem Fin_of1 {h : List (Option Bk)} {r d : D} (hr : scB r = true) (hd : scB d = true) (k : Fin1 h r d) : Fin h r d := fun C w bs x hS0 hw hx => (RV_sc hd).2 (k C w bs x hS0 hw ((RV_sc hr).1 hx))
theorem Fin_frz {h : List (Option Bk)} {r d : D} (hr : scB r = true) (hd : scB d = true) (e : frzD h r = d) : Fin h r d := Fin_of1 hr hd (Fin1_frz e)
theorem Fin_agg {h : List (Option Bk)} {r d : D} (hr : aggB r = true) (hd : aggB d = true) (hn : nc r = nc d) (hc : ∀ i, i < nc d → Fin1 h (cell r i) (cell d i)) : Fin h r d := fun C w bs x hS0 hw hx => by
  have key : ∃ cs : Array Value, x = .agg cs ∧ cs.size = nc r ∧ ∀ i (hi : i < cs.size), R1 C w bs cs[i] (cell r i) := by
    cases r <;> simp only [aggB] at hr <;> try (cases hr; done)
    · exact hx
    · obtain ⟨cs, a, b⟩ := hx; exact ⟨cs, a, b, fun i hi => by omega⟩
    · exact hx
  obtain ⟨cs, h1, h2, h3⟩ := key
  have h4 : ∀ i (hi : i < cs.size), RI w (FS C w) cs[i] (cell d i) := fun i hi => hc i (by omega) C w bs _ hS0 hw (h3 i hi)
  cases d <;> simp only [aggB] at hd <;> try (cases hd; done)
  · exact ⟨cs, h1, h2.trans hn, h4⟩
  · exact ⟨cs, h1, h2.trans hn⟩
  · exact ⟨cs, h1, h2.trans hn, h4⟩
/-- .. part by part -/
inductive FinT (h : List (Option Bk)) : D → D → Prop
  | nil : FinT h .nil .nil
  | cons {r d rs ds} (hr : noTup r = true) (hd : noTup d = true) (k : Fin h r d) (t : FinT h rs ds) : FinT h (.cons r rs) (.cons d ds)
theorem Fin_tup {h : List (Option Bk)} {rs ds : D} (k : FinT h rs ds) : Fin h (.tup rs) (.tup ds) := fun C w bs x hS0 hw hx => by
  obtain ⟨vs, h1, h2⟩ := hx
  refine ⟨vs, h1, ?_⟩
  clear h1
  generalize vs.toList = l at *
  induction k generalizing l with
  | nil => cases l with | nil => trivial | cons a b => exact h2.elim
  | @cons r d rs ds hr hd k t ih =>
    cases l with
    | nil => exact h2.elim
    | cons a b =>
      obtain ⟨p1, p2⟩ := h2
      have h3 : RV C w bs a r := by cases r <;> first | exact p1 | (cases hr; done)
      exact ⟨RG0_of_RG hd (k C w bs a hS0 hw h3), ih b p2⟩

/-! ### a conversion of a row to its own type: it is marked -/
theorem WR.refz {C : Cx} {h : List (Option Bk)} {bs : List (Option Nat)} {w w' : World} (hw : WR C h bs w) {l b : Nat} (hb : bs[l]? = some (some b)) {cs : Array Value} {T : TypeId} {fz fz' : Nat × Nat} (hg : w.heap[b]? = some (.cells cs T fz)) (hg' : w'.heap[b]? = some (.cells cs T fz')) (hu : unfro fz' cs.size)
    (ho : w'.os = w.os ∧ w'.tape = w.tape ∧ w'.output = w.output ∧ w'.heap.size = w.heap.size) (hne : ∀ b', b' ≠ b → w'.heap[b']? = w.heap[b']?) : WR C h bs w' ∧ Ext C w bs w' bs := by
  obtain ⟨o1, o2, o3, o4⟩ := ho
  have hsh : ∀ b', w'.shape? b' = w.shape? b' := fun b' => by
    by_cases e : b' = b
    · subst e; unfold World.shape?; rw [hg, hg']
    · exact shape_of_heap (hne b' e)
  have hE : Ext C w bs w' bs := ⟨fun b' hb' => ⟨⟨hb'.1, by rw [o4]; exact hb'.2.1, hb'.2.2⟩, hne b' fun e => hb'.2.2 l (by rw [e]; exact hb)⟩, fun i b' hi => ⟨hi, hsh b'⟩⟩
  refine ⟨⟨hw.len, hw.inj, fun i b' hi => ⟨by rw [o4]; exact (hw.ok i b' hi).1, (hw.ok i b' hi).2⟩, fun i k hk => ?_, ?_, hw.gl, hw.g0, hw.tok, hw.mix, hw.s0, fun i b' hi => ⟨(hw.fix i b' hi).1, (hsh b').trans (hw.fix i b' hi).2⟩⟩, hE⟩
  · rcases hw.blk i k hk with ⟨b', hb', hB⟩ | h0
    · refine .inl ⟨b', hb', ?_⟩
      by_cases e : b' = b
      · subst e
        cases k with
        | one d =>
          obtain ⟨cs', T', fz0, h1, h2, h3, h4⟩ := hB
          rw [hg] at h1
          cases h1
          exact ⟨cs, T, fz', hg', h2, hu, fun i hi => (h4 i hi).ext hE⟩
        | row L T' sz =>
          obtain ⟨cs', fz0, h1, h2, h3, h4, h5⟩ := hB
          rw [hg] at h1
          cases h1
          exact ⟨cs, fz', hg', h2, hu, h4, fun i j hi hj => let ⟨x, hx, hr⟩ := h5 i j hi hj; ⟨x, hx, hr.mono hE.im⟩⟩
      · exact hB.ext hE (hne b' e)
    · exact .inr h0
  · have hf := hw.fr
    exact ⟨o1.trans hf.os, o2.trans hf.tape, o3.trans hf.output, by rw [o4]; exact hf.size, fun b' hb' => (hne b' fun e => (hw.ok l b hb).2 (by rw [← e]; exact hb')).trans (hf.block b' hb')⟩
theorem DO_convid {C : Cx} {o : Oper} {st : St} {t el l n : Nat} {L : List D} {x : Operand} (ho : o.op = .convert t t x) (hd : dstB C o = true) (hT : isU8T C.T t = some el) (hx : evD C st x = .own l n el 1) (hn : 0 < n) (hl : st.h[l]? = some (some (.row L el 1))) : DO C o st (St.put st o.dst (.own l n el 1)) := by
  intro bs a w hr
  have hxv := RV_evD hr x
  rw [hx] at hxv
  unfold isU8T at hT
  split at hT
  · rename_i hT'
    split at hT
    · rename_i hE'
      simp only [Option.some.injEq] at hT
      rw [hT] at hT' hE'
      obtain ⟨ti, dt, _, hF, _⟩ := tok_of hr.wr.tok hT'
      obtain ⟨ti2, de, _, hF2, _⟩ := tok_of hr.wr.tok hE'
      have hd1 := hF.desc
      have hd2 := hF2.desc
      cases dt <;> simp only [descB] at hd1 <;> try cases hd1
      simp only [beq_iff_eq] at hd1
      subst hd1
      cases de <;> simp only [descB] at hd2 <;> try cases hd2
      have := of_decide_eq_true hd2
      subst this
      have hxv0 := hxv
      rcases RV_own hxv with ⟨h1, h2⟩ | ⟨b, cap, h1, h2, h3, h4, h5⟩
      · omega
      · obtain ⟨cs, fz, g1, g2, g3, g4, g5⟩ := hr.wr.at hl h2
        have hblt : b < w.heap.size := (hr.wr.ok l b h2).1
        have hsh : w.shape? b = some (el, cs.size) := by unfold World.shape?; rw [g1]
        have hrun : (execOp a.eval o).run C.P w = .ok (.value (a.eval x)) (w.freeze ⟨b, cs.size, none⟩ 1) := by
          simp [execOp, ho, convert, Sem.run_bind, hF.underlying w, hF2.underlying w, h1, markStringish, hsh]
        rw [hrun]
        obtain ⟨fz', hfz'⟩ : ∃ fz' : Nat × Nat, fz' = (if fz.1 == fz.2 then (cs.size, cs.size + 1) else (min fz.1 cs.size, max fz.2 (cs.size + 1))) := ⟨_, rfl⟩
        have hg' : (w.freeze ⟨b, cs.size, none⟩ 1).heap[b]? = some (.cells cs el fz') := by
          unfold World.freeze
          rw [if_neg (by decide)]
          have : w.heap[b]? = some (.cells cs el (fz.1, fz.2)) := g1
          simp only [Array.getElem?_modify, if_true, this, Option.map_some, hfz']
        have hu : unfro fz' cs.size := by
          rw [hfz']
          rcases g3 with e | e
          · rw [e]; right; simp
          · right
            split
            · simp
            · simp; omega
        obtain ⟨w1, w2⟩ := hr.wr.refz h2 g1 hg' hu ⟨by unfold World.freeze; rw [if_neg (by decide)], by unfold World.freeze; rw [if_neg (by decide)], by unfold World.freeze; rw [if_neg (by decide)], by unfold World.freeze; rw [if_neg (by decide)]; simp⟩ (fun b' hb' => by
          unfold World.freeze
          rw [if_neg (by decide)]
          simp only [Array.getElem?_modify]
          rw [if_neg (by omega)])
        exact ⟨bs, Rel.put ⟨hr.defers, hr.size, fun t => RV.ext w2 (hr.slots t), w1⟩ (dstB_spec hd) (RV.ext w2 hxv0)⟩
    · cases hT
  · cases hT
theorem dobsl1 {C : Cx} {o : Oper} {st : St} {t el len : Nat} {e : TE} {parts : Array (Nat × Operand)} {b1 b2 : Nat} {z1 : D} {xs : List D} (ho : o.op = .buildSlice t len parts) (hd : dstB C o = true) (hT : C.T t = some ⟨.slice el, b1, b2, z1⟩) (hE : C.T el = some e) (hi : parts.toList.map (·.1) = List.range len)
    (hpos : 0 < e.sz := by decide) (hle : len ≤ 1000000 := by decide) (ha0 : argsD C st o = xs := by simp only [byteD, implies_true, setD, bslF, buildF, buildL, List.zip_cons_cons, List.zip_nil_right, List.zip_nil_left, pureD, rng0, rng1, rng2, rng3, rng4, rng5, rng6, rng7, rng8, List.getD_cons_zero, List.getD_cons_succ, Nat.reduceLeDiff, decide_true, decide_false, List.all_cons, List.all_nil, dqF, nilF, callQ, argsD, Op.operands, Call.operands, evD, cD, gip, upd, look, List.map, List.map_cons, List.map_nil, binF, binI, shI, binS, unF, wD, kLo, kHi, kMod, kBits, convF, loadF, fieldF, faddrF, indexF, iaddrF, lenF, lenD, sliceF, sliceF3, minF, sliceD, cutL, bndF, sub, nc, aggT, aggB, scB, tnth, elems, L_B, L_mk, List.getElem?_cons_zero, List.getElem?_cons_succ, reduceIte, reduceCtorEq, Option.isSome, List.toList_toArray, Nat.reduceAdd, Nat.reduceSub, Nat.reduceMul, Nat.reduceEqDiff, Nat.reduceLT, Nat.reduceBEq, mkF, mkG, Bool.and_true, Bool.true_and, Bool.and_false, Bool.false_and, beq_self_eq_true, mkC, Int.reduceToNat, Int.toNat_natCast, Int.reduceAdd, Int.reduceSub, Int.reduceMul, Nat.zero_add, Nat.add_zero, Nat.mul_one, and_true, true_and, Option.getD_some, Option.getD_none, ne_eq, not_true_eq_false, not_false_eq_true, decide_not, Bool.not_true, Bool.not_false, Int.reduceLT, Int.reduceLE, Int.reduceEq, Int.reduceNe, Int.reduceGT, Int.reduceGE, gt_iff_lt, ge_iff_le, Nat.reduceLT, Nat.reduceLeDiff, u32D, u8D, iD, bD, strD, u32_xor, u32_or, u32_and, u32_add, u32_not, u32_shr, u32_shl, u8_u32, u32_u8, envOf, tyT, gtab, hX]; exact rfl) (hx : xs.all (fun d => pureD d && (aggB d || scB d) && nc d == e.sz) = true := by rfl) (hl : len * e.sz ≤ 16777216 := by decide) : DO C o st (St.put ⟨st.s, st.h ++ [some (.row xs el e.sz)]⟩ o.dst (.own st.h.length len el e.sz)) :=
  DO_bsl ho hd hT hE hi hpos hle ha0 hx hl
theorem doconvid1 {C : Cx} {o : Oper} {st : St} {t el l n : Nat} {L : List D} {x : Operand} (ho : o.op = .convert t t x) (hd : dstB C o = true) (hT : isU8T C.T t = some el) (hx : evD C st x = .own l n el 1 := by simp only [byteD, implies_true, setD, bslF, buildF, buildL, List.zip_cons_cons, List.zip_nil_right, List.zip_nil_left, pureD, rng0, rng1, rng2, rng3, rng4, rng5, rng6, rng7, rng8, List.getD_cons_zero, List.getD_cons_succ, Nat.reduceLeDiff, decide_true, decide_false, List.all_cons, List.all_nil, dqF, nilF, callQ, argsD, Op.operands, Call.operands, evD, cD, gip, upd, look, List.map, List.map_cons, List.map_nil, binF, binI, shI, binS, unF, wD, kLo, kHi, kMod, kBits, convF, loadF, fieldF, faddrF, indexF, iaddrF, lenF, lenD, sliceF, sliceF3, minF, sliceD, cutL, bndF, sub, nc, aggT, aggB, scB, tnth, elems, L_B, L_mk, List.getElem?_cons_zero, List.getElem?_cons_succ, reduceIte, reduceCtorEq, Option.isSome, List.toList_toArray, Nat.reduceAdd, Nat.reduceSub, Nat.reduceMul, Nat.reduceEqDiff, Nat.reduceLT, Nat.reduceBEq, mkF, mkG, Bool.and_true, Bool.true_and, Bool.and_false, Bool.false_and, beq_self_eq_true, mkC, Int.reduceToNat, Int.toNat_natCast, Int.reduceAdd, Int.reduceSub, Int.reduceMul, Nat.zero_add, Nat.add_zero, Nat.mul_one, and_true, true_and, Option.getD_some, Option.getD_none, ne_eq, not_true_eq_false, not_false_eq_true, decide_not, Bool.not_true, Bool.not_false, Int.reduceLT, Int.reduceLE, Int.reduceEq, Int.reduceNe, Int.reduceGT, Int.reduceGE, gt_iff_lt, ge_iff_le, Nat.reduceLT, Nat.reduceLeDiff, u32D, u8D, iD, bD, strD, u32_xor, u32_or, u32_and, u32_add, u32_not, u32_shr, u32_shl, u8_u32, u32_u8, envOf, tyT, gtab, hX]; exact rfl) (hn : 0 < n := by omega) (hl : st.h[l]? = some (some (.row L el 1)) := by simp only [byteD, implies_true, setD, bslF, buildF, buildL, List.zip_cons_cons, List.zip_nil_right, List.zip_nil_left, pureD, rng0, rng1, rng2, rng3, rng4, rng5, rng6, rng7, rng8, List.getD_cons_zero, List.getD_cons_succ, Nat.reduceLeDiff, decide_true, decide_false, List.all_cons, List.all_nil, dqF, nilF, callQ, argsD, Op.operands, Call.operands, evD, cD, gip, upd, look, List.map, List.map_cons, List.map_nil, binF, binI, shI, binS, unF, wD, kLo, kHi, kMod, kBits, convF, loadF, fieldF, faddrF, indexF, iaddrF, lenF, lenD, sliceF, sliceF3, minF, sliceD, cutL, bndF, sub, nc, aggT, aggB, scB, tnth, elems, L_B, L_mk, List.getElem?_cons_zero, List.getElem?_cons_succ, reduceIte, reduceCtorEq, Option.isSome, List.toList_toArray, Nat.reduceAdd, Nat.reduceSub, Nat.reduceMul, Nat.reduceEqDiff, Nat.reduceLT, Nat.reduceBEq, mkF, mkG, Bool.and_true, Bool.true_and, Bool.and_false, Bool.false_and, beq_self_eq_true, mkC, Int.reduceToNat, Int.toNat_natCast, Int.reduceAdd, Int.reduceSub, Int.reduceMul, Nat.zero_add, Nat.add_zero, Nat.mul_one, and_true, true_and, Option.getD_some, Option.getD_none, ne_eq, not_true_eq_false, not_false_eq_true, decide_not, Bool.not_true, Bool.not_false, Int.reduceLT, Int.reduceLE, Int.reduceEq, Int.reduceNe, Int.reduceGT, Int.reduceGE, gt_iff_lt, ge_iff_le, Nat.reduceLT, Nat.reduceLeDiff, u32D, u8D, iD, bD, strD, u32_xor, u32_or, u32_and, u32_add, u32_not, u32_shr, u32_shl, u8_u32, u32_u8, envOf, tyT, gtab, hX]; exact rfl) : DO C o st (St.put st o.dst (.own l n el 1)) :=
  DO_convid ho hd hT hx hn hl

/-! ### a range over a function, in the form in which walks use it -/
theorem look_slotX {pins : List Nat} : ∀ {l : List (Nat × D)}, l.all (fun p => slotX pins p.2) = true → ∀ t, slotX pins (look l t) = true
  | [], _, t => rfl
  | (k, d) :: l, h, t => by
    simp only [List.all_cons, Bool.and_eq_true] at h
    simp only [look]
    split
    · exact h.1
    · exact look_slotX h.2 t
def pinsB (pins : List Nat) (h : List (Option Bk)) : Bool := pins.all fun l => match h[l]? with | some (some (.one _)) => true | _ => false
theorem DX_rangeX {E : Env} {n : Nat} {pins : List Nat} {w0 : World} {A0 : Nat → Prop} {bs0 : List (Option Nat)} (pins' : List Nat) (live : List Nat) {g : Operand} {ps : List Tmp} {assign body : Code} {gf : FuncId} {caps : D} {items : List (List D)} {Q : Exit → PUnit → St → Prop} {l l' : List (Nat × D)} {h : List (Option Bk)}
    (H : List (List D) → List (Option Bk)) (X : Exit → List (Option Bk) → Prop) (hgen : SeqX E gf caps items) (eg : fnB E.P gf = true) (hpp : pins.all pins'.contains = true)
    (hg : ∀ (w0 : World) (A S0 : Nat → Prop) (f : Nat → Option Nat), evD (mkG E n w0 A S0 (fxP pins f)) (mk l h) g = .fn gf caps) (hcap : pureD caps = true)
    (h0 : h = H []) (hsl : l'.all (fun p => slotX pins' p.2) = true) (hpin : pinsB pins' (H []) = true) (hpn : ps.all (Nat.blt · n) = true) (hlen : ∀ x ∈ items, x.length = ps.length)
    (hbody : ∀ (M : Md E n pins' PUnit) (L : Nat) (pre : List (List D)) (x : List D), (pre ++ [x]) <+: items → DX M (some L) assign (thenX (fun _ st' => ∀ (M2 : Md E n pins' PUnit), DX M2 (some L) body (bodyX E n pins' (H (pre ++ [x])) X) ⟨⟩ st') (fun _ _ _ => False)) ⟨⟩ ⟨asgD (look l') ps x, H pre⟩)
    (hdone : Q .normal ⟨⟩ (mk l' (H items))) (hstop : ∀ e h', X e h' → Q e ⟨⟩ (mk l' h')) (e : pick (look l) live = l' := by simp only [pick, kil, byteD, implies_true, setD, bslF, buildF, buildL, List.zip_cons_cons, List.zip_nil_right, List.zip_nil_left, pureD, rng0, rng1, rng2, rng3, rng4, rng5, rng6, rng7, rng8, List.getD_cons_zero, List.getD_cons_succ, Nat.reduceLeDiff, decide_true, decide_false, List.all_cons, List.all_nil, dqF, nilF, callQ, argsD, Op.operands, Call.operands, evD, cD, gip, upd, look, List.map, List.map_cons, List.map_nil, binF, binI, shI, binS, unF, wD, kLo, kHi, kMod, kBits, convF, loadF, fieldF, faddrF, indexF, iaddrF, lenF, lenD, sliceF, sliceF3, minF, sliceD, cutL, bndF, sub, nc, aggT, aggB, scB, tnth, elems, L_B, L_mk, List.getElem?_cons_zero, List.getElem?_cons_succ, reduceIte, reduceCtorEq, Option.isSome, List.toList_toArray, Nat.reduceAdd, Nat.reduceSub, Nat.reduceMul, Nat.reduceEqDiff, Nat.reduceLT, Nat.reduceBEq, mkF, mkG, Bool.and_true, Bool.true_and, Bool.and_false, Bool.false_and, beq_self_eq_true, mkC, Int.reduceToNat, Int.toNat_natCast, Int.reduceAdd, Int.reduceSub, Int.reduceMul, Nat.zero_add, Nat.add_zero, Nat.mul_one, and_true, true_and, Option.getD_some, Option.getD_none, ne_eq, not_true_eq_false, not_false_eq_true, decide_not, Bool.not_true, Bool.not_false, Int.reduceLT, Int.reduceLE, Int.reduceEq, Int.reduceNe, Int.reduceGT, Int.reduceGE, gt_iff_lt, ge_iff_le, Nat.reduceLT, Nat.reduceLeDiff, u32D, u8D, iD, bD, strD, u32_xor, u32_or, u32_and, u32_add, u32_not, u32_shr, u32_shl, u8_u32, u32_u8, hX]; exact rfl) :
    DX (MdFn E n pins w0 A0 bs0) none (.rangeFunc g ps.toArray assign body) Q ⟨⟩ (mk l h) := by
  subst h0
  refine DX_range (s0 := look l) (ps := ps.toArray) pins' (fun i hi => ?_) (look l') H X hgen (fun args w => fnB_spec eg args w) hg hcap (fun t => by rw [← e]; exact look_pick _ _ t) (look_slotX hsl) (fun k hk => ?_) (fun p hp => ?_) (fun x hx => by simpa using hlen x hx) (fun M L pre x hx => ?_) hdone hstop
  · have := List.all_eq_true.1 hpp i (by simpa using hi)
    exact this
  · have := List.all_eq_true.1 hpin k (by simpa using hk)
    split at this
    · rename_i d hd; exact ⟨d, hd⟩
    · cases this
  · have := List.all_eq_true.1 hpn p (by simpa using hp)
    simpa using this
  · simpa using hbody M L pre x hx
theorem DX_drop1 {E : Env} {n : Nat} {pins : List Nat} {γ : Type 1} {M : Md E n pins γ} {r : Option Nat} {Q : Exit → γ → St → Prop} {g : γ} {c : Code} {s : Nat → D} {h : List (Option Bk)} (live : List Nat) {l : List (Nat × D)} (k : DX M r c Q g (mk l h)) (e : pick s live = l := by simp only [pick, kil, asgD, byteD, implies_true, setD, bslF, buildF, buildL, List.zip_cons_cons, List.zip_nil_right, List.zip_nil_left, pureD, rng0, rng1, rng2, rng3, rng4, rng5, rng6, rng7, rng8, List.getD_cons_zero, List.getD_cons_succ, Nat.reduceLeDiff, decide_true, decide_false, List.all_cons, List.all_nil, dqF, nilF, callQ, argsD, Op.operands, Call.operands, evD, cD, gip, upd, look, List.map, List.map_cons, List.map_nil, binF, binI, shI, binS, unF, wD, kLo, kHi, kMod, kBits, convF, loadF, fieldF, faddrF, indexF, iaddrF, lenF, lenD, sliceF, sliceF3, minF, sliceD, cutL, bndF, sub, nc, aggT, aggB, scB, tnth, elems, L_B, L_mk, List.getElem?_cons_zero, List.getElem?_cons_succ, reduceIte, reduceCtorEq, Option.isSome, List.toList_toArray, Nat.reduceAdd, Nat.reduceSub, Nat.reduceMul, Nat.reduceEqDiff, Nat.reduceLT, Nat.reduceBEq, mkF, mkG, Bool.and_true, Bool.true_and, Bool.and_false, Bool.false_and, beq_self_eq_true, mkC, Int.reduceToNat, Int.toNat_natCast, Int.reduceAdd, Int.reduceSub, Int.reduceMul, Nat.zero_add, Nat.add_zero, Nat.mul_one, and_true, true_and, Option.getD_some, Option.getD_none, ne_eq, not_true_eq_false, not_false_eq_true, decide_not, Bool.not_true, Bool.not_false, Int.reduceLT, Int.reduceLE, Int.reduceEq, Int.reduceNe, Int.reduceGT, Int.reduceGE, gt_iff_lt, ge_iff_le, Nat.reduceLT, Nat.reduceLeDiff, u32D, u8D, iD, bD, strD, u32_xor, u32_or, u32_and, u32_add, u32_not, u32_shr, u32_shl, u8_u32, u32_u8, hX]; exact rfl) : DX M r c Q g ⟨s, h⟩ := DX_drop live e k
theorem DX_h {E : Env} {n : Nat} {pins : List Nat} {γ : Type 1} {M : Md E n pins γ} {r : Option Nat} {Q : Exit → γ → St → Prop} {g : γ} {c : Code} {l : List (Nat × D)} {h h' : List (Option Bk)} (e : h = h') (k : DX M r c Q g (mk l h')) : DX M r c Q g (mk l h) := by subst e; exact k

/-! ### bytes taken for a text -/
theorem byteD_of (c : UInt8) : D.v (.int .u8 (c.toNat : Int)) = byteD c := rfl
theorem byteOf_byteD (x : UInt8) : byteOf (byteD x) = x := by simp [byteOf, byteD]
theorem rowB {l : List UInt8} {n : Nat} (h : l.length ≤ n) : ((l.map byteD).take n).map byteOf = l := by
  rw [List.take_of_length_le (by simpa using h), List.map_map]
  conv => rhs; rw [← List.map_id l]
  exact List.map_congr_left fun x _ => byteOf_byteD x
def isTextB (T : Nat → Option TE) (s t : Nat) : Bool := match T s, T t with
  | some ⟨.slice el, _, _, _⟩, some ⟨.str, _, _, _⟩ => (match T el with | some ⟨.int .u8, _, _, _⟩ => true | _ => false)
  | _, _ => false
theorem DQ_convrow {C : Cx} {o : Oper} {h : List (Option Bk)} {s t l n el sz : Nat} {x : Operand} {L : List UInt8} (ho : o.op = .convert s t x) (hT : isTextB C.T s t = true) (hl : h[l]? = some (some (.row (L.map byteD) el sz))) (hn : n = L.length) : DQ C o [.own l n el sz] h (.v (.string (B L))) := by
  have he : convF C.T h s t (.own l n el sz) = some ((n ≤ (L.map byteD).length) ∧ ∀ d ∈ (L.map byteD).take n, isU8 d, .v (.string (B (((L.map byteD).take n).map byteOf)))) := by
    unfold isTextB at hT
    split at hT
    · rename_i hs ht
      split at hT
      · rename_i he
        simp only [convF, hs, ht, he, elems, hl]
      · cases hT
    · cases hT
  have := DQ_conv ho he ⟨by simp [hn], fun d hd => by
    obtain ⟨c, _, rfl⟩ := List.mem_map.1 (List.mem_of_mem_take hd)
    trivial⟩
  rwa [rowB (by omega)] at this
section
variable {C : Cx} {ops : Array Oper} {K : St → Prop} {o o' : Oper} {rest : List Oper} {s : Nat → D} {h : List (Option Bk)}
theorem cvx {a b l n el sz : Nat} {x : Operand} {L : List UInt8} (t : Nat) (hg : o.guard = none) (hd : o.dst = some t) (ht' : Nat.blt t C.n = true) (ho : o.op = .convert a b x) (hT : isTextB C.T a b = true) (k : DR C ops K rest ⟨upd s t (.v (.string (B L))), h⟩)
    (e : argsD C ⟨s, h⟩ o = [.own l n el sz] := by simp only [byteD, implies_true, setD, bslF, buildF, buildL, List.zip_cons_cons, List.zip_nil_right, List.zip_nil_left, pureD, rng0, rng1, rng2, rng3, rng4, rng5, rng6, rng7, rng8, List.getD_cons_zero, List.getD_cons_succ, Nat.reduceLeDiff, decide_true, decide_false, List.all_cons, List.all_nil, dqF, nilF, callQ, argsD, Op.operands, Call.operands, evD, cD, gip, upd, look, List.map, List.map_cons, List.map_nil, binF, binI, shI, binS, unF, wD, kLo, kHi, kMod, kBits, convF, loadF, fieldF, faddrF, indexF, iaddrF, lenF, lenD, sliceF, sliceF3, minF, sliceD, cutL, bndF, sub, nc, aggT, aggB, scB, tnth, elems, L_B, L_mk, List.getElem?_cons_zero, List.getElem?_cons_succ, reduceIte, reduceCtorEq, Option.isSome, List.toList_toArray, Nat.reduceAdd, Nat.reduceSub, Nat.reduceMul, Nat.reduceEqDiff, Nat.reduceLT, Nat.reduceBEq, mkF, mkG, Bool.and_true, Bool.true_and, Bool.and_false, Bool.false_and, beq_self_eq_true, mkC, Int.reduceToNat, Int.toNat_natCast, Int.reduceAdd, Int.reduceSub, Int.reduceMul, Nat.zero_add, Nat.add_zero, Nat.mul_one, and_true, true_and, Option.getD_some, Option.getD_none, ne_eq, not_true_eq_false, not_false_eq_true, decide_not, Bool.not_true, Bool.not_false, Int.reduceLT, Int.reduceLE, Int.reduceEq, Int.reduceNe, Int.reduceGT, Int.reduceGE, gt_iff_lt, ge_iff_le, Nat.reduceLT, Nat.reduceLeDiff, u32D, u8D, iD, bD, strD, u32_xor, u32_or, u32_and, u32_add, u32_not, u32_shr, u32_shl, u8_u32, u32_u8, envOf, tyT, gtab, hX]; exact rfl) (hl : h[l]? = some (some (.row (L.map byteD) el sz)) := by exact rfl) (hn : n = L.length := by first | omega | (simp only [L_B, L_mk, bndF, Option.getD_some, Option.getD_none, List.length_cons, List.length_nil, List.length_append, List.length_map, List.length_range, List.length_drop, List.length_take, List.length_replicate, List.length_set, List.length_reverse, hX] <;> omega)) : DR C ops K (o :: rest) ⟨s, h⟩ := DR_c t hg hd ht' e (DQ_convrow ho hT hl hn) k
theorem cvxq {a b l n el sz : Nat} {x : Operand} {L : List UInt8} (t : Nat) (hg : o.guard = none) (hd : o.dst = some t) (ht' : Nat.blt t C.n = true) (ho : o.op = .convert a b x) (hT : isTextB C.T a b = true) (k : DRq C ops K rest ⟨upd s t (.v (.string (B L))), h⟩)
    (e : argsD C ⟨s, h⟩ o = [.own l n el sz] := by simp only [byteD, implies_true, setD, bslF, buildF, buildL, List.zip_cons_cons, List.zip_nil_right, List.zip_nil_left, pureD, rng0, rng1, rng2, rng3, rng4, rng5, rng6, rng7, rng8, List.getD_cons_zero, List.getD_cons_succ, Nat.reduceLeDiff, decide_true, decide_false, List.all_cons, List.all_nil, dqF, nilF, callQ, argsD, Op.operands, Call.operands, evD, cD, gip, upd, look, List.map, List.map_cons, List.map_nil, binF, binI, shI, binS, unF, wD, kLo, kHi, kMod, kBits, convF, loadF, fieldF, faddrF, indexF, iaddrF, lenF, lenD, sliceF, sliceF3, minF, sliceD, cutL, bndF, sub, nc, aggT, aggB, scB, tnth, elems, L_B, L_mk, List.getElem?_cons_zero, List.getElem?_cons_succ, reduceIte, reduceCtorEq, Option.isSome, List.toList_toArray, Nat.reduceAdd, Nat.reduceSub, Nat.reduceMul, Nat.reduceEqDiff, Nat.reduceLT, Nat.reduceBEq, mkF, mkG, Bool.and_true, Bool.true_and, Bool.and_false, Bool.false_and, beq_self_eq_true, mkC, Int.reduceToNat, Int.toNat_natCast, Int.reduceAdd, Int.reduceSub, Int.reduceMul, Nat.zero_add, Nat.add_zero, Nat.mul_one, and_true, true_and, Option.getD_some, Option.getD_none, ne_eq, not_true_eq_false, not_false_eq_true, decide_not, Bool.not_true, Bool.not_false, Int.reduceLT, Int.reduceLE, Int.reduceEq, Int.reduceNe, Int.reduceGT, Int.reduceGE, gt_iff_lt, ge_iff_le, Nat.reduceLT, Nat.reduceLeDiff, u32D, u8D, iD, bD, strD, u32_xor, u32_or, u32_and, u32_add, u32_not, u32_shr, u32_shl, u8_u32, u32_u8, envOf, tyT, gtab, hX]; exact rfl) (hl : h[l]? = some (some (.row (L.map byteD) el sz)) := by exact rfl) (hn : n = L.length := by first | omega | (simp only [L_B, L_mk, bndF, Option.getD_some, Option.getD_none, List.length_cons, List.length_nil, List.length_append, List.length_map, List.length_range, List.length_drop, List.length_take, List.length_replicate, List.length_set, List.length_reverse, hX] <;> omega)) : DRq C ops K (o :: rest) ⟨s, h⟩ := DRq_c t hg hd ht' e (DQ_convrow ho hT hl hn) k
end

/-! ### an own block may be said otherwise -/
theorem Weak.one {C : Cx} {l : List (Nat × D)} {h : List (Option Bk)} (p : Nat) {d d' : D} (hp : h[p]? = some (some (.one d))) (hn : nc d' = nc d) (hc : ∀ (i : Nat) (w : World) (bs : List (Option Nat)) (x : Value), i < nc d → R1 C w bs x (cell d i) → R1 C w bs x (cell d' i)) : Weak C (mk l h) (mk l (h.set p (some (.one d')))) := fun bs a w hr => by
  have hw := hr.wr
  refine ⟨bs, hr.defers, hr.size, hr.slots, ⟨by simp [hw.len, mk], hw.inj, hw.ok, fun i kk hk => ?_, hw.fr, hw.gl, hw.g0, hw.tok, hw.mix, hw.s0, hw.fix⟩⟩
  simp only [mk] at hk
  rw [List.getElem?_set] at hk
  split at hk
  · rename_i e
    subst e
    split at hk
    · simp at hk
      subst hk
      rcases hw.blk p _ hp with ⟨b, h1, cs, T, fz, e1, e2, e3, e4⟩ | ⟨T, sz, h1, _⟩
      · exact .inl ⟨b, h1, cs, T, fz, e1, by rw [hn]; exact e2, e3, fun i hi => hc i w bs _ (by omega) (e4 i hi)⟩
      · cases h1
    · cases hk
  · exact hw.blk i kk hk
theorem Weak.nil_row {C : Cx} {l : List (Nat × D)} {h : List (Option Bk)} (T sz : Nat) : Weak C (mk l h) (mk l (h ++ [some (.row [] T sz)])) := fun bs a w hr => by
  obtain ⟨w1, w2⟩ := hr.wr.more (ob := none) (k := .row [] T sz) (Nat.le_refl _) rfl rfl rfl (fun _ _ => rfl) (by simp) (fun _ => .inr ⟨_, _, rfl, rfl⟩)
  exact ⟨_, hr.defers, hr.size, fun i => RV.ext w2 (hr.slots i), w1⟩
/-- nil in a block, as an own row without elements -/
theorem Weak.nil_ownB {C : Cx} {l : List (Nat × D)} {h : List (Option Bk)} (p T sz : Nat) (hp : h[p]? = some (some (.one (.v (.slice none 0 0))))) : Weak C (mk l h) (mk l ((h ++ [some (Bk.row [] T sz)]).set p (some (.one (.own h.length 0 T sz))))) := by
  refine (Weak.nil_row T sz).trans (Weak.one p (d := .v (.slice none 0 0)) ?_ rfl fun i w bs x hi hx => ?_)
  · rw [List.getElem?_append_left (List.getElem?_eq_some_iff.1 hp).1]; exact hp
  · have hx' : RV C w bs x (.v (.slice none 0 0)) := hx
    rw [(RV_v hx').1]
    exact R1.own0
end Go.Proofs.YtedioenakmgdiaaDoor

namespace Go.Proofs.YtedioenakmgdiaaDoor
set_option linter.unusedSimpArgs false
set_option linter.unusedVariables false
set_option maxRecDepth 10000
open Go.RowKit
def shD : D → D
  | .ptr (l + 1) o => .ptr l o
  | .ptr 0 _ => .dead
  | .own (l + 1) n T sz => .own l n T sz
  | .own 0 _ _ _ => .dead
  | .osl (l + 1) o n => .osl l o n
  | .osl 0 _ _ => .dead
  | .cons a b => .cons (shD a) (shD b)
  | .tup ps => .tup (shD ps)
  | .fn f caps => .fn f (shD caps)
  | d => d
theorem nc_sh (d : D) : nc (shD d) = nc d := by
  induction d with
  | cons a b ih1 ih2 => simp only [shD, nc, ih1, ih2]
  | ptr l o => cases l <;> rfl
  | own l => cases l <;> rfl
  | osl l => cases l <;> rfl
  | _ => rfl
theorem cell_sh (d : D) : ∀ i, cell (shD d) i = shD (cell d i) := by
  induction d with
  | cons a b ih1 ih2 =>
    intro i
    simp only [shD, cell, nc_sh]
    split
    · exact ih1 i
    · exact ih2 _
  | ptr l o => intro i; cases l <;> rfl
  | own l => intro i; cases l <;> rfl
  | osl l => intro i; cases l <;> rfl
  | _ => intro i; rfl
theorem RI.sh {w : World} {S : Nat → Prop} {x : Value} {d : D} (k : RI w S x d) : RI w S x (shD d) := by
  induction k with
  | fn hn _ ih => exact .fn (by rw [nc_sh]; exact hn) fun i hi => by rw [cell_sh]; exact ih i hi
  | v h => exact .v h
  | sl0 => exact .sl0
  | sl sz xs hb hcap hs hx hc _ => exact .sl sz xs hb hcap hs hx hc
  | ip xs hb hx hc _ => exact .ip xs hb hx hc
  | dead h => exact .dead h
theorem Sf.sh {C : Cx} {w : World} {bs : List (Option Nat)} {b : Nat} (h : Sf C w bs b) : Sf C w bs.tail b := ⟨h.1, h.2.1, fun i => by rw [List.getElem?_tail]; exact h.2.2 (i + 1)⟩
theorem R1.sh {C : Cx} {w : World} {bs : List (Option Nat)} {x : Value} {d : D} (k : R1 C w bs x d) : R1 C w bs.tail x (shD d) := by
  induction k with
  | im k => exact .im (k.mono fun b hb => ⟨hb.sh, rfl⟩).sh
  | @ptr l o b hb =>
    cases l with
    | zero => exact .im (.dead rfl)
    | succ l => exact .ptr (by rw [List.getElem?_tail]; exact hb)
  | @own l n T sz b cap hb hs hn hc =>
    cases l with
    | zero => exact .im (.dead rfl)
    | succ l => exact .own (by rw [List.getElem?_tail]; exact hb) hs hn hc
  | @own0 l T sz =>
    cases l with
    | zero => exact .im (.dead rfl)
    | succ l => exact .own0
  | @osl0 l o a cap =>
    cases l with
    | zero => exact .im (.dead rfl)
    | succ l => exact .osl0
  | @osl l o n b cap hb hn =>
    cases l with
    | zero => exact .im (.dead rfl)
    | succ l => exact .osl (by rw [List.getElem?_tail]; exact hb) hn
  | fn hn _ ih => exact .fn (by rw [nc_sh]; exact hn) fun i hi => by rw [cell_sh]; exact ih i hi
theorem RG0.sh {C : Cx} {w : World} {bs : List (Option Nat)} {x : Value} {d : D} (k : RG0 (R1 C w bs) x d) : RG0 (R1 C w bs.tail) x (shD d) := by
  cases d with
  | tup ps => exact k.elim
  | arr kk n f => obtain ⟨cs, a, b, c⟩ := k; exact ⟨cs, a, b, fun i hi => (c i hi).sh⟩
  | nil => exact k
  | cons a b =>
    obtain ⟨cs, h1, h2, h3⟩ := k
    refine ⟨cs, h1, ?_, fun i hi => ?_⟩
    · show cs.size = nc (shD (.cons a b))
      rw [nc_sh]; exact h2
    · show R1 C w bs.tail cs[i] (cell (shD (.cons a b)) i)
      rw [cell_sh]; exact (h3 i hi).sh
  | dead => trivial
  | ptr l o =>
    have := R1.sh (show R1 C w bs x (.ptr l o) from k)
    cases l <;> first | trivial | exact this
  | own l n T sz =>
    have := R1.sh (show R1 C w bs x (.own l n T sz) from k)
    cases l <;> first | trivial | exact this
  | osl l o n =>
    have := R1.sh (show R1 C w bs x (.osl l o n) from k)
    cases l <;> first | trivial | exact this
  | v y => exact R1.sh (show R1 C w bs x (.v y) from k)
  | sl l z e => exact R1.sh (show R1 C w bs x (.sl l z e) from k)
  | ip d => exact R1.sh (show R1 C w bs x (.ip d) from k)
  | fn f c => exact R1.sh (show R1 C w bs x (.fn f c) from k)
theorem TG.sh {C : Cx} {w : World} {bs : List (Option Nat)} : ∀ {vs : List Value} {d : D}, TG (R1 C w bs) vs d → TG (R1 C w bs.tail) vs (shD d)
  | [], .nil, _ => trivial
  | _ :: _, .cons _ _, h => ⟨h.1.sh, TG.sh h.2⟩
  | [], .cons _ _, h => h.elim
  | [], .v _, h => h.elim
  | [], .arr .., h => h.elim
  | [], .tup _, h => h.elim
  | [], .sl .., h => h.elim
  | [], .ip _, h => h.elim
  | [], .ptr .., h => h.elim
  | [], .own .., h => h.elim
  | [], .osl .., h => h.elim
  | [], .fn .., h => h.elim
  | [], .dead, h => h.elim
  | _ :: _, .nil, h => h.elim
  | _ :: _, .v _, h => h.elim
  | _ :: _, .arr .., h => h.elim
  | _ :: _, .tup _, h => h.elim
  | _ :: _, .sl .., h => h.elim
  | _ :: _, .ip _, h => h.elim
  | _ :: _, .ptr .., h => h.elim
  | _ :: _, .own .., h => h.elim
  | _ :: _, .osl .., h => h.elim
  | _ :: _, .fn .., h => h.elim
  | _ :: _, .dead, h => h.elim
theorem RV.sh {C : Cx} {w : World} {bs : List (Option Nat)} {x : Value} {d : D} (k : RV C w bs x d) : RV C w bs.tail x (shD d) := by
  cases d with
  | tup ps => obtain ⟨vs, a, b⟩ := k; exact ⟨vs, a, b.sh⟩
  | ptr l o =>
    have := RG0.sh (RG0_of_RG (by rfl) k)
    cases l <;> exact this
  | own l n T sz =>
    have := RG0.sh (RG0_of_RG (by rfl) k)
    cases l <;> exact this
  | osl l o n =>
    have := RG0.sh (RG0_of_RG (by rfl) k)
    cases l <;> exact this
  | _ => exact RG0.sh (RG0_of_RG (by rfl) k)
def shB : Bk → Bk
  | .one d => .one (shD d)
  | .row L T sz => .row L T sz
theorem look_sh : ∀ (l : List (Nat × D)) (t : Nat), look (l.map fun p => (p.1, shD p.2)) t = shD (look l t)
  | [], _ => rfl
  | (k, d) :: l, t => by
    simp only [List.map_cons, look]
    split
    · rfl
    · exact look_sh l t
theorem Weak.shift {C : Cx} {l l' : List (Nat × D)} {h h' : List (Option Bk)} (hfx : ∀ i, C.fx i = none) (el : l.map (fun p => (p.1, shD p.2)) = l') (eh : h.tail.map (Option.map shB) = h') : Weak C (mk l h) (mk l' h') := fun bs a w hr => by
  subst el eh
  have hw := hr.wr
  refine ⟨bs.tail, hr.defers, hr.size, fun t => ?_, ⟨by simp [hw.len, mk], fun i j b hi hj => ?_, fun i b hi => ?_, fun i kk hk => ?_, hw.fr, hw.gl, hw.g0, hw.tok, hw.mix, hw.s0, fun i b hi => ?_⟩⟩
  · show RV C w bs.tail _ (look (l.map fun p => (p.1, shD p.2)) t)
    rw [look_sh]
    exact (hr.slots t).sh
  · rw [List.getElem?_tail] at hi hj
    have := hw.inj _ _ b hi hj
    omega
  · rw [List.getElem?_tail] at hi
    exact hw.ok _ b hi
  · simp only [mk, List.getElem?_map, List.getElem?_tail, Option.map_eq_some_iff] at hk
    obtain ⟨k0, hk0, hk1⟩ := hk
    cases k0 with
    | none => simp at hk1
    | some k1 =>
      simp only [Option.some.injEq] at hk1
      obtain ⟨_, rfl, rfl⟩ := hk1
      rcases hw.blk _ k1 hk0 with ⟨b, h1, h2⟩ | ⟨T, sz, h1, h2⟩
      · refine .inl ⟨b, by rw [List.getElem?_tail]; exact h1, ?_⟩
        cases k1 with
        | one d =>
          obtain ⟨cs, T, fz, e1, e2, e3, e4⟩ := h2
          exact ⟨cs, T, fz, e1, by rw [nc_sh]; exact e2, e3, fun i hi => by rw [cell_sh]; exact (e4 i hi).sh⟩
        | row L T sz =>
          obtain ⟨cs, fz, e1, e2, e3, e4, e5⟩ := h2
          exact ⟨cs, fz, e1, e2, e3, e4, fun i j hi hj => let ⟨x, hx, hr⟩ := e5 i j hi hj; ⟨x, hx, hr.mono fun b hb => ⟨hb.sh, rfl⟩⟩⟩
      · subst h1
        exact .inr ⟨T, sz, rfl, by rw [List.getElem?_tail]; exact h2⟩
  · rw [hfx i] at hi; cases hi
theorem WeakX.shift {E : Env} {n : Nat} {l l' : List (Nat × D)} {h h' : List (Option Bk)} (el : l.map (fun p => (p.1, shD p.2)) = l') (eh : h.tail.map (Option.map shB) = h') : WeakX E n [] (mk l h) (mk l' h') := fun _ _ _ _ => Weak.shift (fun i => by simp [mkG, fxP]) el eh
theorem WeakX.take {E : Env} {n : Nat} {l : List (Nat × D)} {h h' : List (Option Bk)} (k : Nat) (hs : l.all (fun p => ltB k p.2) = true) (hb : (h.take k).all (ltBk k) = true) (eh : h.take k = h') : WeakX E n [] (mk l h) (mk l h') := fun _ _ _ _ => eh ▸ Weak.take k (fun i b hi => by simp [mkG, fxP] at hi) hs hb
/-- nil in the first part of a block, as an own row without elements -/
theorem Weak.nil_ownC {C : Cx} {l : List (Nat × D)} {h : List (Option Bk)} (p T sz : Nat) {rest : D} (hp : h[p]? = some (some (.one (.cons (.v (.slice none 0 0)) rest)))) : Weak C (mk l h) (mk l ((h ++ [some (Bk.row [] T sz)]).set p (some (.one (.cons (.own h.length 0 T sz) rest))))) := by
  refine (Weak.nil_row T sz).trans (Weak.one p (d := .cons (.v (.slice none 0 0)) rest) ?_ rfl fun i w bs x hi hx => ?_)
  · rw [List.getElem?_append_left (List.getElem?_eq_some_iff.1 hp).1]; exact hp
  · by_cases h0 : i < 1
    · have a1 : cell (.cons (.v (.slice none 0 0)) rest) i = .v (.slice none 0 0) := if_pos h0
      have a2 : cell (.cons (.own h.length 0 T sz) rest) i = .own h.length 0 T sz := if_pos h0
      rw [a1] at hx
      rw [a2]
      have hx' : RV C w bs x (.v (.slice none 0 0)) := hx
      rw [(RV_v hx').1]
      exact R1.own0
    · have a1 : cell (.cons (.v (.slice none 0 0)) rest) i = cell rest (i - 1) := if_neg h0
      have a2 : cell (.cons (.own h.length 0 T sz) rest) i = cell rest (i - 1) := if_neg h0
      rw [a1] at hx
      rw [a2]
      exact hx
theorem Fin_nil {h : List (Option Bk)} {α : Type} {z : α} {e : α → D} : Fin h (.v (.slice none 0 0)) (.sl [] z e) := fun C w bs x _ _ hx => by
  have := (RV_v hx).1
  subst this
  exact (RI.sl0 : RI w _ (.slice none 0 0) (.sl [] z e))
end Go.Proofs.YtedioenakmgdiaaDoor

namespace Go.Proofs.YtedioenakmgdiaaDoor
set_option linter.unusedSimpArgs false
set_option linter.unusedVariables false
set_option maxRecDepth 10000
open Go.RowKit
/-- the numbers of own blocks, further on -/
def suD (k : Nat) : D → D
  | .ptr l o => .ptr (k + l) o
  | .own l n T sz => .own (k + l) n T sz
  | .osl l o n => .osl (k + l) o n
  | .cons a b => .cons (suD k a) (suD k b)
  | .tup ps => .tup (suD k ps)
  | .fn f caps => .fn f (suD k caps)
  | d => d
def suB (k : Nat) : Bk → Bk
  | .one d => .one (suD k d)
  | .row L T sz => .row L T sz
theorem nc_su (k : Nat) (d : D) : nc (suD k d) = nc d := by
  induction d with
  | cons a b ih1 ih2 => simp only [suD, nc, ih1, ih2]
  | _ => rfl
theorem cell_su (k : Nat) (d : D) : ∀ i, cell (suD k d) i = suD k (cell d i) := by
  induction d with
  | cons a b ih1 ih2 =>
    intro i
    simp only [suD, cell, nc_su]
    split
    · exact ih1 i
    · exact ih2 _
  | _ => intro i; rfl
theorem RI.su {w : World} {S : Nat → Prop} (k : Nat) {x : Value} {d : D} (h : RI w S x d) : RI w S x (suD k d) := by
  induction h with
  | fn hn _ ih => exact .fn (by rw [nc_su]; exact hn) fun i hi => by rw [cell_su]; exact ih i hi
  | v h => exact .v h
  | sl0 => exact .sl0
  | sl sz xs hb hcap hs hx hc _ => exact .sl sz xs hb hcap hs hx hc
  | ip xs hb hx hc _ => exact .ip xs hb hx hc
  | dead h => exact .dead h
section
variable {C C' : Cx} {w : World} {bs bs' : List (Option Nat)} (hS : ∀ b, Sf C' w bs' b → Sf C w (bs ++ bs') b)
include hS
theorem R1.su {x : Value} {d : D} (h : R1 C' w bs' x d) : R1 C w (bs ++ bs') x (suD bs.length d) := by
  have hl : ∀ (l b : Nat), bs'[l]? = some (some b) → (bs ++ bs')[bs.length + l]? = some (some b) := fun l b hb => by rw [List.getElem?_append_right (by omega), Nat.add_sub_cancel_left]; exact hb
  induction h with
  | im h => exact .im ((h.mono fun b hb => ⟨hS b hb, rfl⟩).su _)
  | ptr h => exact .ptr (hl _ _ h)
  | own h hs hn hc => exact .own (hl _ _ h) hs hn hc
  | own0 => exact .own0
  | osl0 => exact .osl0
  | osl h hn => exact .osl (hl _ _ h) hn
  | fn hn _ ih => exact .fn (by rw [nc_su]; exact hn) fun i hi => by rw [cell_su]; exact ih i hi
theorem RG0.su {x : Value} {d : D} (h : RG0 (R1 C' w bs') x d) : RG0 (R1 C w (bs ++ bs')) x (suD bs.length d) := by
  cases d with
  | arr k n f => obtain ⟨cs, a, b, c⟩ := h; exact ⟨cs, a, b, fun i hi => (c i hi).su hS⟩
  | cons p q =>
    obtain ⟨cs, a, b, c⟩ := h
    refine ⟨cs, a, ?_, fun i hi => ?_⟩
    · show cs.size = nc (suD bs.length (.cons p q))
      rw [nc_su]; exact b
    · show R1 C w (bs ++ bs') cs[i] (cell (suD bs.length (.cons p q)) i)
      rw [cell_su]; exact (c i hi).su hS
  | nil => exact h
  | tup ps => exact h.elim
  | dead => trivial
  | _ => exact R1.su hS h
theorem TG.su : ∀ {vs : List Value} {d : D}, TG (R1 C' w bs') vs d → TG (R1 C w (bs ++ bs')) vs (suD bs.length d)
  | [], .nil, _ => trivial
  | _ :: _, .cons _ _, h => ⟨h.1.su hS, TG.su h.2⟩
  | [], .cons _ _, h => h.elim
  | [], .v _, h => h.elim
  | [], .arr .., h => h.elim
  | [], .tup _, h => h.elim
  | [], .sl .., h => h.elim
  | [], .ip _, h => h.elim
  | [], .ptr .., h => h.elim
  | [], .own .., h => h.elim
  | [], .osl .., h => h.elim
  | [], .fn .., h => h.elim
  | [], .dead, h => h.elim
  | _ :: _, .nil, h => h.elim
  | _ :: _, .v _, h => h.elim
  | _ :: _, .arr .., h => h.elim
  | _ :: _, .tup _, h => h.elim
  | _ :: _, .sl .., h => h.elim
  | _ :: _, .ip _, h => h.elim
  | _ :: _, .ptr .., h => h.elim
  | _ :: _, .own .., h => h.elim
  | _ :: _, .osl .., h => h.elim
  | _ :: _, .fn .., h => h.elim
  | _ :: _, .dead, h => h.elim
theorem RV.su {x : Value} {d : D} (h : RV C' w bs' x d) : RV C w (bs ++ bs') x (suD bs.length d) := by
  cases d with
  | tup ps => obtain ⟨vs, a, b⟩ := h; exact ⟨vs, a, b.su hS⟩
  | _ => exact RG0.su hS (RG0_of_RG (by rfl) h)
end
theorem DO_callN {E : Env} {C : Cx} (hE : EnvC E C) {o : Oper} {st : St} {f : FuncId} {g : Operand} {args : Array Operand} {ts : Array TypeId} {r : D} {H' : List (Option Bk)} {xs : List D} (ho : o.op = .call { callee := .value g, args := args, argTypes := ts }) (hd : dstB C o = true) (hf : fnB C.P f = true)
    (hx : argsD C st o = .fn f .nil :: xs) (hp : xs.all pureD = true) (hc : PH E f xs [] r H') : DO C o st (St.put ⟨st.s, st.h ++ H'.map (Option.map (suB st.h.length))⟩ o.dst (suD st.h.length r)) := by
  intro bs a w hr
  have ha := All2.map (R := RV C w bs) (f := a.eval) (g := evD C st) o.op.operands.toList (fun x _ => RV_evD hr x)
  have hargs : o.op.operands.toList.map (evD C st) = .fn f .nil :: xs := hx
  rw [hargs] at ha
  obtain ⟨vs, hrun, hv⟩ := call_args (C := C) (cs := []) (by simp) hf ho ha
  rw [List.append_nil] at hv
  have hw := hr.wr
  have hG := Gok_of hE hw
  have hg : ∀ b, b < E.gN → Sf C w bs b := by rw [hE.gN]; exact Sf_g hw
  have hcall := hc 0 w (Sf C w bs) [] vs (fun b hb => ⟨hb.2.1, by simp⟩)
    ⟨rfl, by simp, by simp, by simp, ⟨rfl, rfl, rfl, Nat.le_refl _, fun _ _ => rfl⟩, fun b hb => ⟨⟨(hg b hb).2.1, by simp⟩, hg b hb⟩, hG.gl, hG.tok, hG.mix, fun b hb => hb.1, fun i b hi => by simp [mkG, fxP] at hi⟩
    (All2.imp (K := fun d e => d = e ∧ pureD d = true) (fun a b c h1 h2 => by
      obtain ⟨rfl, h3⟩ := h2
      exact RG.imp h3 (fun _ _ hp' h => .im ((h.pure hp').mono fun b hb => ⟨⟨.inl hb, hb.2.1, by simp⟩, rfl⟩)) h1) hv (All2.reflP fun x hx' => ⟨rfl, List.all_eq_true.1 hp x hx'⟩))
  rw [hE.P] at hcall
  rw [hrun]
  refine hcall.mono fun e w' ⟨x, bs', he, h2, hxr⟩ => ⟨x, he, bs ++ bs', ?_⟩
  have hfr := h2.fr
  have hsz : w.heap.size ≤ w'.heap.size := hfr.size
  have hbk : ∀ b, b < w.heap.size → w'.heap[b]? = w.heap[b]? := fun b hb => hfr.block b ⟨hb, by simp⟩
  have hnew : ∀ (i b : Nat), bs'[i]? = some (some b) → w.heap.size ≤ b ∧ b < w'.heap.size := fun i b hi => ⟨Nat.le_of_not_lt fun hlt => (h2.ok i b hi).2 ⟨hlt, by simp⟩, (h2.ok i b hi).1⟩
  have hlen : bs.length = st.h.length := hw.len
  have hat : ∀ (i b : Nat), (bs ++ bs')[i]? = some (some b) → (i < bs.length ∧ bs[i]? = some (some b)) ∨ (bs.length ≤ i ∧ bs'[i - bs.length]? = some (some b)) := fun i b hi => by
    by_cases h : i < bs.length
    · rw [List.getElem?_append_left h] at hi; exact .inl ⟨h, hi⟩
    · rw [List.getElem?_append_right (by omega)] at hi; exact .inr ⟨by omega, hi⟩
  have hE2 : Ext C w bs w' (bs ++ bs') := by
    refine ⟨fun k hk => ⟨⟨hk.1, Nat.lt_of_lt_of_le hk.2.1 hsz, fun i hi => ?_⟩, hbk k hk.2.1⟩, fun i k hk => ⟨?_, shape_of_heap (hbk k (hw.ok i k hk).1)⟩⟩
    · rcases hat i k hi with ⟨_, h⟩ | ⟨_, h⟩
      · exact hk.2.2 i h
      · have := (hnew _ _ h).1; have := hk.2.1; omega
    · have hi : i < bs.length := (List.getElem?_eq_some_iff.1 hk).1
      rw [List.getElem?_append_left hi]; exact hk
  have hS : ∀ b, Sf (hctx E 0 [] w (Sf C w bs) []) w' bs' b → Sf C w' (bs ++ bs') b := fun b hb => by
    obtain ⟨q1, q2, q3⟩ := hb
    have q1' : Sf C w bs b ∨ w.heap.size ≤ b := q1
    refine ⟨?_, q2, fun i hi => ?_⟩
    · rcases q1' with h | h
      · exact h.1
      · exact .inr (Nat.le_trans hw.fr.size h)
    · rcases hat i b hi with ⟨_, h⟩ | ⟨_, h⟩
      · rcases q1' with h' | h'
        · exact h'.2.2 i h
        · have := (hw.ok i b h).1; omega
      · exact q3 _ h
  have hwr : WR C (st.h ++ H'.map (Option.map (suB st.h.length))) (bs ++ bs') w' := by
    refine ⟨by simp [hlen, h2.len], fun i j b hi hj => ?_, fun i b hi => ?_, fun i kk hk => ?_, ?_, hw.gl, hw.g0, hw.tok, hw.mix, hw.s0, fun i b hi => ?_⟩
    · rcases hat i b hi with ⟨h1, h3⟩ | ⟨h1, h3⟩ <;> rcases hat j b hj with ⟨h4, h5⟩ | ⟨h4, h5⟩
      · exact hw.inj i j b h3 h5
      · have := (hw.ok i b h3).1; have := (hnew _ _ h5).1; omega
      · have := (hw.ok j b h5).1; have := (hnew _ _ h3).1; omega
      · have := h2.inj _ _ b h3 h5; omega
    · rcases hat i b hi with ⟨h1, h3⟩ | ⟨h1, h3⟩
      · exact ⟨Nat.lt_of_lt_of_le (hw.ok i b h3).1 hsz, (hw.ok i b h3).2⟩
      · refine ⟨(hnew _ _ h3).2, fun hs => ?_⟩
        have := hw.s0 b hs
        have := hw.fr.size
        have := (hnew _ _ h3).1
        omega
    · by_cases hi : i < st.h.length
      · rw [List.getElem?_append_left hi] at hk
        rcases hw.blk i kk hk with ⟨b, hb, hB⟩ | ⟨T, sz, h0, h3⟩
        · exact .inl ⟨b, (hE2.ow i b hb).1, hB.ext hE2 (hbk b (hw.ok i b hb).1)⟩
        · exact .inr ⟨T, sz, h0, by rw [List.getElem?_append_left (by omega)]; exact h3⟩
      · rw [List.getElem?_append_right (by omega), List.getElem?_map, Option.map_eq_some_iff] at hk
        obtain ⟨k0, hk0, hk1⟩ := hk
        cases k0 with
        | none => simp at hk1
        | some k1 =>
          simp only [Option.map_some, Option.some.injEq] at hk1
          subst hk1
          rw [← hlen] at hk0 ⊢
          rcases h2.blk _ k1 hk0 with ⟨b, hb, hB⟩ | ⟨T, sz, h0, h3⟩
          · refine .inl ⟨b, by rw [List.getElem?_append_right (by omega)]; exact hb, ?_⟩
            cases k1 with
            | one d =>
              obtain ⟨cs, T, fz, e1, e2, e3, e4⟩ := hB
              exact ⟨cs, T, fz, e1, by rw [nc_su]; exact e2, e3, fun i hi => by rw [cell_su]; exact (e4 i hi).su hS⟩
            | row L T sz =>
              obtain ⟨cs, fz, e1, e2, e3, e4, e5⟩ := hB
              exact ⟨cs, fz, e1, e2, e3, e4, fun i j hi hj => let ⟨x, hx, hr⟩ := e5 i j hi hj; ⟨x, hx, hr.mono fun b hb => ⟨hS b hb, rfl⟩⟩⟩
          · subst h0
            exact .inr ⟨T, sz, rfl, by rw [List.getElem?_append_right (by omega)]; exact h3⟩
    · have hf0 := hw.fr
      exact ⟨hfr.os.trans hf0.os, hfr.tape.trans hf0.tape, hfr.output.trans hf0.output, Nat.le_trans hf0.size hsz, fun k hk => (hbk k (by have := hw.s0 k hk; have := hf0.size; omega)).trans (hf0.block k hk)⟩
    · obtain ⟨f1, f2⟩ := hw.fix i b hi
      exact ⟨(hE2.ow i b f1).1, (hE2.ow i b f1).2.trans f2⟩
  have := hxr.su hS
  rw [hlen] at this
  exact Rel.put (st := ⟨st.s, st.h ++ H'.map (Option.map (suB st.h.length))⟩) ⟨hr.defers, hr.size, fun t => RV.ext hE2 (hr.slots t), hwr⟩ (dstB_spec hd) this
theorem docalln {E : Env} {C : Cx} (hE : EnvC E C) {o : Oper} {st : St} {f : FuncId} {g : Operand} {args : Array Operand} {ts : Array TypeId} {r r' : D} {H' H2 : List (Option Bk)} {xs : List D} (ho : o.op = .call { callee := .value g, args := args, argTypes := ts }) (hd : dstB C o = true) (hf : fnB C.P f = true)
    (hx : argsD C st o = .fn f .nil :: xs := by simp only [Array.toList_append, List.cons_append, List.nil_append, byteD, implies_true, setD, bslF, buildF, buildL, List.zip_cons_cons, List.zip_nil_right, List.zip_nil_left, pureD, rng0, rng1, rng2, rng3, rng4, rng5, rng6, rng7, rng8, List.getD_cons_zero, List.getD_cons_succ, Nat.reduceLeDiff, decide_true, decide_false, List.all_cons, List.all_nil, dqF, nilF, callQ, argsD, Op.operands, Call.operands, evD, cD, gip, upd, look, List.map, List.map_cons, List.map_nil, binF, binI, shI, binS, unF, wD, kLo, kHi, kMod, kBits, convF, loadF, fieldF, faddrF, indexF, iaddrF, lenF, lenD, sliceF, sliceF3, minF, sliceD, cutL, bndF, sub, nc, aggT, aggB, scB, tnth, elems, L_B, L_mk, List.getElem?_cons_zero, List.getElem?_cons_succ, reduceIte, reduceCtorEq, Option.isSome, List.toList_toArray, Nat.reduceAdd, Nat.reduceSub, Nat.reduceMul, Nat.reduceEqDiff, Nat.reduceLT, Nat.reduceBEq, mkF, mkG, Bool.and_true, Bool.true_and, Bool.and_false, Bool.false_and, beq_self_eq_true, mkC, Int.reduceToNat, Int.toNat_natCast, Int.reduceAdd, Int.reduceSub, Int.reduceMul, Nat.zero_add, Nat.add_zero, Nat.mul_one, and_true, true_and, Option.getD_some, Option.getD_none, ne_eq, not_true_eq_false, not_false_eq_true, decide_not, Bool.not_true, Bool.not_false, Int.reduceLT, Int.reduceLE, Int.reduceEq, Int.reduceNe, Int.reduceGT, Int.reduceGE, gt_iff_lt, ge_iff_le, Nat.reduceLT, Nat.reduceLeDiff, u32D, u8D, iD, bD, strD, u32_xor, u32_or, u32_and, u32_add, u32_not, u32_shr, u32_shl, u8_u32, u32_u8, envOf, tyT, gtab, hX]; exact rfl) (hp : xs.all pureD = true := by rfl) (hc : PH E f xs [] r H')
    (e1 : H'.map (Option.map (suB st.h.length)) = H2 := by simp only [suD, suB, List.map_cons, List.map_nil, Option.map, List.length_cons, List.length_nil, Nat.reduceAdd, Nat.add_zero, hX]; exact rfl)
    (e2 : suD st.h.length r = r' := by simp only [suD, List.length_cons, List.length_nil, Nat.reduceAdd, Nat.add_zero, hX]; exact rfl) : DO C o st (St.put ⟨st.s, st.h ++ H2⟩ o.dst r') := by
  subst e1 e2
  exact DO_callN hE ho hd hf hx hp hc
/-- a function that is given no own block, and hands back own ones -/
theorem PN_atX {E : Env} {f : FuncId} {fn : Func} {c : Code} {n : Nat} {rs : List ResultVar} {args : List D} {H' : List (Option Bk)} {l : List (Nat × D)} {r : D} (hf : E.P.funcs[f]? = some fn) (hb : fn.body = some c) (hN : fn.ntmps = n) (hR : fn.results = rs.toArray) (hn : Nat.ble args.length n = true) (hl : argsL 0 args = l)
    (hbody : ∀ (w0 : World) (A : Nat → Prop) (bs0 : List (Option Nat)), DX (MdFn E n [] w0 A bs0) none c (postX E n [] rs (fun h r0 => FinH E n [] h r0 r H')) ⟨⟩ (mk l [])) : PH E f args [] r H' := PH_atX hf hb hN hR hn hl hbody
end Go.Proofs.YtedioenakmgdiaaDoor

namespace Go.Proofs.YtedioenakmgdiaaDoor
set_option linter.unusedSimpArgs false
set_option linter.unusedVariables false
set_option maxRecDepth 10000
open Go.RowKit
def frzR (p : Nat) {α : Type} (xs : List α) (z : α) (f : α → D) : D → D
  | .own l n T sz => if l = p then (if n ≤ xs.length then .sl (xs.take n) z f else .dead) else .own l n T sz
  | .ptr l o => if l = p then .dead else .ptr l o
  | .osl l o n => if l = p then .dead else .osl l o n
  | .cons a b => .cons (frzR p xs z f a) (frzR p xs z f b)
  | .tup ps => .tup (frzR p xs z f ps)
  | .fn g caps => .fn g (frzR p xs z f caps)
  | d => d
def frzK (p : Nat) {α : Type} (xs : List α) (z : α) (f : α → D) : Bk → Bk
  | .one d => .one (frzR p xs z f d)
  | .row L T sz => .row L T sz
section
variable {p : Nat} {α : Type} {xs : List α} {z : α} {f : α → D}
theorem nc_frzR (d : D) : nc (frzR p xs z f d) = nc d := by
  induction d with
  | cons a b ih1 ih2 => simp only [frzR, nc, ih1, ih2]
  | own l n T sz => simp only [frzR]; split <;> (try split) <;> rfl
  | ptr l o => simp only [frzR]; split <;> rfl
  | osl l o n => simp only [frzR]; split <;> rfl
  | _ => rfl
theorem cell_frzR (d : D) : ∀ i, cell (frzR p xs z f d) i = frzR p xs z f (cell d i) := by
  induction d with
  | cons a b ih1 ih2 =>
    intro i
    simp only [frzR, cell, nc_frzR]
    split
    · exact ih1 i
    · exact ih2 _
  | own l n T sz => intro i; simp only [frzR, cell]; split <;> (try split) <;> rfl
  | ptr l o => intro i; simp only [frzR, cell]; split <;> rfl
  | osl l o n => intro i; simp only [frzR, cell]; split <;> rfl
  | _ => intro i; rfl
theorem RI.frzR {w : World} {S : Nat → Prop} {x : Value} {d : D} (k : RI w S x d) : RI w S x (Proofs.YtedioenakmgdiaaDoor.frzR p xs z f d) := by
  induction k with
  | fn hn _ ih => exact .fn (by rw [nc_frzR]; exact hn) fun i hi => by rw [cell_frzR]; exact ih i hi
  | v h => exact .v h
  | sl0 => exact .sl0
  | sl sz xs hb hcap hs hx hc _ => exact .sl sz xs hb hcap hs hx hc
  | ip xs hb hx hc _ => exact .ip xs hb hx hc
  | dead h => exact .dead h
variable {E : Env} {n : Nat} {w1 : World} {A1 S1 : Nat → Prop} {fx : Nat → Option Nat} {h : List (Option Bk)} {bs : List (Option Nat)} {W : World} {T sz : Nat}
abbrev A2 (A1 : Nat → Prop) (bs : List (Option Nat)) (p : Nat) : Nat → Prop := fun x => A1 x ∨ bs[p]? = some (some x)
theorem set_none {i b : Nat} (h : (bs.set p none)[i]? = some (some b)) : i ≠ p ∧ bs[i]? = some (some b) := by
  rw [List.getElem?_set] at h
  split at h
  · split at h <;> cases h
  · rename_i h0; exact ⟨fun e => h0 e.symm, h⟩
theorem set_some {i b : Nat} (hi : i ≠ p) (h : bs[i]? = some (some b)) : (bs.set p none)[i]? = some (some b) := by
  rw [List.getElem?_set, if_neg (fun e => hi e.symm)]; exact h
theorem Sf.frzR {b : Nat} (h : Sf (mkG E n w1 A1 S1 fx) W bs b) : Sf (mkG E n w1 (A2 A1 bs p) S1 fx) W (bs.set p none) b :=
  ⟨h.1.imp (fun h => .inl h) id, h.2.1, fun i hi => h.2.2 i (set_none hi).2⟩
theorem R1.frzR (hw : WR (mkG E n w1 A1 S1 fx) h bs W) (hp : h[p]? = some (some (.row (xs.map f) T sz))) {x : Value} {d : D} (k : R1 (mkG E n w1 A1 S1 fx) W bs x d) : R1 (mkG E n w1 (A2 A1 bs p) S1 fx) W (bs.set p none) x (Proofs.YtedioenakmgdiaaDoor.frzR p xs z f d) := by
  induction k with
  | im k => exact .im (k.mono fun b hb => ⟨hb.frzR, rfl⟩).frzR
  | @ptr l o b hb =>
    simp only [Proofs.YtedioenakmgdiaaDoor.frzR]
    split
    · exact .im (.dead rfl)
    · rename_i h0; exact .ptr (set_some h0 hb)
  | @own l m T' sz' b cap hb hs hn hc =>
    simp only [Proofs.YtedioenakmgdiaaDoor.frzR]
    split
    · rename_i h0
      subst h0
      split
      · rename_i hm
        rcases hw.blk l _ hp with ⟨b', hb', cs, fz, e1, e2, e3, e4, e5⟩ | ⟨_, _, _, h0⟩
        · rw [hb] at hb'
          cases hb'
          have hlen : (xs.take m).length = m := by rw [List.length_take]; omega
          have hat : ∀ i, i < m → ∃ hi : i < (xs.map f).length, f ((xs.take m).getD i z) = (xs.map f)[i] := fun i hi => by
            have h1 : i < xs.length := by omega
            refine ⟨by simpa using h1, ?_⟩
            simp [List.getD_eq_getElem?_getD, List.getElem?_take, hi, h1]
          have key : RI W (Sf (mkG E n w1 (A2 A1 bs l) S1 fx) W (bs.set l none)) (.slice (some ⟨b, 0, none⟩) (xs.take m).length cap) (.sl (xs.take m) z f) := by
            refine .sl sz (fun i j => cs.getD (i * sz + j) undef) ⟨.inl (.inr hb), (hw.ok l b hb).1, fun i hi => ?_⟩ (by rw [hlen]; exact hn) (fun i hi => ?_) (fun i j hi hj => ?_) (fun i j hi hj => ?_)
            · obtain ⟨h1, h2⟩ := set_none hi
              exact h1 (hw.inj i l b h2 hb)
            · obtain ⟨h1, h2⟩ := hat i (by omega)
              rw [h2]; exact e4 _ (List.getElem_mem h1)
            · obtain ⟨h1, h2⟩ := hat i (by omega)
              obtain ⟨x, hx, _⟩ := e5 i j h1 hj
              rw [Nat.zero_add]
              unfold World.cell?
              rw [e1]
              simp [Array.getD_eq_getD_getElem?, hx]
            · obtain ⟨h1, h2⟩ := hat i (by omega)
              obtain ⟨x, hx, hr⟩ := e5 i j h1 hj
              rw [h2]
              simp only [Array.getD_eq_getD_getElem?, hx, Option.getD_some]
              exact hr.mono fun b hb => ⟨hb.frzR, rfl⟩
          rw [hlen] at key
          exact .im key
        · rw [hb] at h0; cases h0
      · exact .im (.dead rfl)
    · rename_i h0; exact .own (set_some h0 hb) hs hn hc
  | @own0 l T' sz' =>
    simp only [Proofs.YtedioenakmgdiaaDoor.frzR]
    split
    · split
      · exact .im .sl0
      · exact .im (.dead rfl)
    · exact .own0
  | @osl0 l o a cap =>
    simp only [Proofs.YtedioenakmgdiaaDoor.frzR]
    split
    · exact .im (.dead rfl)
    · exact .osl0
  | @osl l o m b cap hb hn =>
    simp only [Proofs.YtedioenakmgdiaaDoor.frzR]
    split
    · exact .im (.dead rfl)
    · rename_i h0; exact .osl (set_some h0 hb) hn
  | fn hn _ ih => exact .fn (by rw [nc_frzR]; exact hn) fun i hi => by rw [cell_frzR]; exact ih i hi
theorem RV.frzR (hw : WR (mkG E n w1 A1 S1 fx) h bs W) (hp : h[p]? = some (some (.row (xs.map f) T sz))) {x : Value} {d : D} (ht : noTup d = true) (k : RV (mkG E n w1 A1 S1 fx) W bs x d) : RV (mkG E n w1 (A2 A1 bs p) S1 fx) W (bs.set p none) x (Proofs.YtedioenakmgdiaaDoor.frzR p xs z f d) := by
  cases d with
  | tup ps => cases ht
  | arr kk m g => obtain ⟨cs, a, b, c⟩ := k; exact ⟨cs, a, b, fun i hi => R1.frzR (z := z) hw hp (c i hi)⟩
  | nil => exact k
  | cons a b =>
    obtain ⟨cs, h1, h2, h3⟩ := k
    refine ⟨cs, h1, ?_, fun i hi => ?_⟩
    · show cs.size = nc (Proofs.YtedioenakmgdiaaDoor.frzR p xs z f (.cons a b))
      rw [nc_frzR]; exact h2
    · show R1 _ W _ cs[i] (cell (Proofs.YtedioenakmgdiaaDoor.frzR p xs z f (.cons a b)) i)
      rw [cell_frzR]; exact R1.frzR (z := z) hw hp (h3 i hi)
  | dead => trivial
  | own l m T' sz' =>
    have := R1.frzR (z := z) hw hp (show R1 _ W bs x (.own l m T' sz') from k)
    simp only [Proofs.YtedioenakmgdiaaDoor.frzR] at this ⊢
    split <;> (try split) <;> simp_all <;> first | trivial | exact this
  | ptr l o =>
    have := R1.frzR (z := z) hw hp (show R1 _ W bs x (.ptr l o) from k)
    simp only [Proofs.YtedioenakmgdiaaDoor.frzR] at this ⊢
    split <;> simp_all <;> first | trivial | exact this
  | osl l o m =>
    have := R1.frzR (z := z) hw hp (show R1 _ W bs x (.osl l o m) from k)
    simp only [Proofs.YtedioenakmgdiaaDoor.frzR] at this ⊢
    split <;> simp_all <;> first | trivial | exact this
  | v y => exact R1.frzR (z := z) hw hp (show R1 _ W bs x (.v y) from k)
  | sl l z' e => exact R1.frzR (z := z) hw hp (show R1 _ W bs x (.sl l z' e) from k)
  | ip d => exact R1.frzR (z := z) hw hp (show R1 _ W bs x (.ip d) from k)
  | fn g c => exact R1.frzR (z := z) hw hp (show R1 _ W bs x (.fn g c) from k)
end
theorem look_frzR {p : Nat} {α : Type} {xs : List α} {z : α} {f : α → D} : ∀ (l : List (Nat × D)) (t : Nat), look (l.map fun q => (q.1, frzR p xs z f q.2)) t = frzR p xs z f (look l t)
  | [], _ => rfl
  | (k, d) :: l, t => by
    simp only [List.map_cons, look]
    split
    · rfl
    · exact look_frzR l t
theorem look_noTup : ∀ {l : List (Nat × D)}, l.all (fun p => noTup p.2) = true → ∀ t, noTup (look l t) = true
  | [], _, t => rfl
  | (k, d) :: l, h, t => by
    simp only [List.all_cons, Bool.and_eq_true] at h
    simp only [look]
    split
    · exact h.1
    · exact look_noTup h.2 t
theorem DX_freeze {E : Env} {n : Nat} {w0 : World} {A0 : Nat → Prop} {r : Option Nat} {c : Code} {Q : Exit → PUnit → St → Prop} {g : PUnit} {l l' : List (Nat × D)} {h h' : List (Option Bk)} (p : Nat) {α : Type} (xs : List α) (z : α) (f : α → D) {T sz : Nat}
    (hp : h[p]? = some (some (.row (xs.map f) T sz))) (ht : l.all (fun p => noTup p.2) = true) (el : l.map (fun q => (q.1, frzR p xs z f q.2)) = l') (eh : (h.map (Option.map (frzK p xs z f))).set p none = h') (k : DX (MdFn E n [] w0 A0 []) r c Q g (mk l' h')) : DX (MdFn E n [] w0 A0 []) r c Q g (mk l h) := by
  subst el eh
  rintro bs a W ⟨w1, A1, S1, f0, marks, a0, e, hr, ok⟩
  have hw := hr.wr
  have hfx : ∀ i, fxP [] f0 i = none := fun i => by simp [fxP]
  refine k (bs.set p none) a W ⟨w1, A2 A1 bs p, S1, f0, marks, a0, e, ⟨hr.defers, hr.size, fun t => ?_, ⟨?_, fun i j b hi hj => ?_, fun i b hi => ?_, fun i kk hk => ?_, hw.fr, fun b hb => ⟨(hw.gl b hb).1, .inl (hw.gl b hb).2⟩, hw.g0, hw.tok, hw.mix, hw.s0, fun i b hi => ?_⟩⟩, ⟨ok.fr, ok.s1, fun b hb => ?_, fun D hD => ?_, ok.nd, ok.pn⟩⟩
  · show RV _ W _ _ (look (l.map fun q => (q.1, frzR p xs z f q.2)) t)
    rw [look_frzR]
    exact RV.frzR hw hp (look_noTup ht t) (hr.slots t)
  · have := hw.len
    simp only [mk] at this
    simp [mk, this]
  · exact hw.inj i j b (set_none hi).2 (set_none hj).2
  · exact hw.ok i b (set_none hi).2
  · simp only [mk] at hk
    rw [List.getElem?_set] at hk
    split at hk
    · split at hk <;> cases hk
    · rename_i hne
      rw [List.getElem?_map, Option.map_eq_some_iff] at hk
      obtain ⟨k0, hk0, hk1⟩ := hk
      cases k0 with
      | none => cases hk1
      | some k1 =>
        simp only [Option.map_some, Option.some.injEq] at hk1
        subst hk1
        rcases hw.blk i k1 hk0 with ⟨b, hb, hB⟩ | ⟨T', sz', h0, h3⟩
        · refine .inl ⟨b, set_some (fun e => hne e.symm) hb, ?_⟩
          cases k1 with
          | one d =>
            obtain ⟨cs, T', fz, e1, e2, e3, e4⟩ := hB
            exact ⟨cs, T', fz, e1, by rw [nc_frzR]; exact e2, e3, fun i hi => by rw [cell_frzR]; exact (e4 i hi).frzR hw hp⟩
          | row L T' sz' =>
            obtain ⟨cs, fz, e1, e2, e3, e4, e5⟩ := hB
            exact ⟨cs, fz, e1, e2, e3, e4, fun i j hi hj => let ⟨x, hx, hr⟩ := e5 i j hi hj; ⟨x, hx, hr.mono fun b hb => ⟨hb.frzR, rfl⟩⟩⟩
        · subst h0
          refine .inr ⟨T', sz', rfl, ?_⟩
          rw [List.getElem?_set, if_neg hne]; exact h3
  · rw [show (mkG E n w1 (A2 A1 bs p) S1 (fxP [] f0)).fx i = fxP [] f0 i from rfl, hfx] at hi; cases hi
  · rcases hb with hb | hb
    · exact ok.a1 b hb
    · refine .inr (Nat.le_of_not_lt fun hlt => (hw.ok p b hb).2 (ok.s1 b ⟨hlt, by simp⟩))
  · obtain ⟨q1, q2, q3, q4⟩ := ok.mrk D hD
    refine ⟨q1, fun h => ?_, q3, q4⟩
    rcases h with h | h
    · exact q2 h
    · exact (hw.ok p D h).2 q1

/-- a method that writes through its pointer, by its contract with own blocks -/
theorem PM_ofH {E : Env} {f : FuncId} {args : List D} {d0 d1 r : D} (h : PH E f (.ptr 0 0 :: args) [some (.one d0)] r [some (.one d1)]) (h1 : pureD d1 = true) (hr : pureD r = true) : PM E f d0 args d1 r := by
  intro w S b T fz vs hG hS hg hSb hst hv
  obtain ⟨cs, g1, g2, g3, g4⟩ := hst
  have hblt : b < w.heap.size := (Array.getElem?_eq_some_iff.1 g1).1
  have hSf : ∀ k, S k → Sf (hctx E 0 [0] w S [some b]) w [some b] k := fun k hk => ⟨.inl hk, hS k hk, fun i hi => by
    rcases i with _ | i
    · simp at hi; subst hi; exact hSb hk
    · simp at hi⟩
  have hone : ∀ (i k : Nat), ([some b] : List (Option Nat))[i]? = some (some k) → i = 0 ∧ k = b := fun i k hi => by
    rcases i with _ | i
    · simp at hi; exact ⟨rfl, hi.symm⟩
    · simp at hi
  have hW : WR (hctx E 0 [0] w S [some b]) [some (.one d0)] [some b] w := by
    refine ⟨rfl, fun i j k hi hj => by rw [(hone i k hi).1, (hone j k hj).1], fun i k hi => ?_, fun i k hk => ?_, ⟨rfl, rfl, rfl, Nat.le_refl _, fun _ _ => rfl⟩, fun k hk => ⟨⟨hS k (hg k hk), fun i hi => ?_⟩, hg k hk⟩, hG.gl, hG.tok, hG.mix, fun k hk => hk.1, fun i k hi => ?_⟩
    · obtain ⟨rfl, rfl⟩ := hone i k hi
      exact ⟨hblt, fun hh => hh.2 0 rfl⟩
    · rcases i with _ | i
      · simp at hk
        subst hk
        exact .inl ⟨b, rfl, cs, T, fz, g1, g2, g3, fun i hi => .im ((g4 i hi).mono fun k hk => ⟨hSf k hk, rfl⟩)⟩
      · simp at hk
    · obtain ⟨_, rfl⟩ := hone i k hi
      exact hSb (hg _ hk)
    · simp only [mkG, fxP] at hi
      split at hi
      · rename_i hc
        obtain rfl : i = 0 := by simpa using hc
        simp at hi
        subst hi
        exact ⟨rfl, rfl⟩
      · cases hi
  have hcall := h 0 w S [some b] (#[.pointer (some ⟨b, 0, none⟩)] ++ vs) (fun k hk => ⟨hS k hk, fun i hi => by obtain ⟨_, rfl⟩ := hone i k hi; exact hSb hk⟩) hW (by
    rw [Array.toList_append]
    exact .cons (R1.ptr rfl) (All2.imp (K := fun a b => a = b) (fun a b c h1 h2 => by subst h2; exact RG.mono (fun x d hr => .im (hr.mono fun k hk => ⟨hSf k hk, rfl⟩)) h1) hv (All2.reflP fun _ _ => rfl)))
  refine hcall.mono fun e w' ⟨x, bs', he, h2, hxr⟩ => ?_
  have hfr := h2.fr
  obtain ⟨f1, f2⟩ := h2.fix 0 b (by simp [mkG, fxP])
  obtain ⟨cs', T', fz', k1, k2, k3, k4⟩ := h2.at (l := 0) rfl f1
  have hT : T' = T := by
    have a1 : w'.shape? b = some (T', cs'.size) := by unfold World.shape?; rw [k1]
    have a2 : w.shape? b = some (T, cs.size) := by unfold World.shape?; rw [g1]
    have a3 : w'.shape? b = w.shape? b := f2
    rw [a1, a2] at a3
    simp at a3
    exact a3.1
  subst hT
  have hS' : ∀ k, Sf (hctx E 0 [0] w S [some b]) w' bs' k → ((S k ∨ w.heap.size ≤ k) ∧ k < w'.heap.size ∧ k ≠ b) ∧ w'.heap[k]? = w'.heap[k]? := fun k hk => ⟨⟨hk.1, hk.2.1, fun e => hk.2.2 0 (by rw [e]; exact f1)⟩, rfl⟩
  refine ⟨x, he, ⟨hfr.os, hfr.tape, hfr.output, hfr.size, fun k hk => hfr.block k ⟨hk.1, fun i hi => hk.2 (hone i k hi).2⟩⟩, f2, ⟨fz', cs', k1, k2, k3, fun i hi => ((k4 i hi).pure (pure_cell h1 i)).mono hS'⟩, ?_⟩
  exact RG.imp hr (fun _ _ hp' h => (h.pure hp').mono hS') hxr
theorem WeakX.takeP {E : Env} {n : Nat} {pins : List Nat} {l : List (Nat × D)} {h h' : List (Option Bk)} (k : Nat) (hpk : pins.all (Nat.blt · k) = true) (hs : l.all (fun p => ltB k p.2) = true) (hb : (h.take k).all (ltBk k) = true) (eh : h.take k = h') : WeakX E n pins (mk l h) (mk l h') := fun _ _ _ _ => eh ▸ Weak.take k (fun i b hi => by
  simp only [mkG, fxP] at hi
  split at hi
  · rename_i hc
    have := List.all_eq_true.1 hpk i (by simpa using hc)
    simpa using this
  · cases hi) hs hb
end Go.Proofs.YtedioenakmgdiaaDoor
