/- The types and the package variables, as values stand for data. Printed by a program. Computing in a few words. Steps whose computing is left to an auto-parameter: short texts. More steps whose computing is left to an auto-parameter: guarded operations, arrays compared. Steps of walks in a mode, their computing left to auto-parameters. It speaks of no program of ours. What is handed back, part by part; pointers to own blocks that nobody writes any more. It speaks of no program of ours. Interfaces, functions without a text of their own, slices made, bytes taken for a text without a copy. It speaks of no program of ours. Steps of XIa, their computing left to auto-parameters. It speaks of no program of ours. Whole regions as one rule, their steps left to auto-parameters. It speaks of no program of ours. The first own block is let go; nil in a part of a block. It speaks of no program of ours. Calls of functions that hand back own blocks of theirs. It speaks of no program of ours. An own row is let stand: from then on nobody writes it. Methods that write through their pointer, by contracts with own blocks. It speaks of no program of ours. Regions that draw their order, whose first operation (a move) may also come late. It speaks of no program of ours. A copy into an array of one's own, its computing left to auto-parameters. It speaks of no program of ours. Regions that draw their order, in which one part of a result may be taken late (behind the store of the other part). It speaks of no program of ours. Regions that draw their order, in which a new block is made at any time, and one part of a result may be taken late. It speaks of no program of ours. -/
import Derived.Test.YtfgjinfmlmcpiaaQPA
import Derived.Test.YtfgjinfmlmcpiaaProg
import Derived.Test.YtfgjinfmlmcpiaaQPC
import Derived.Lib.IfaceNeq
import Derived.Lib.UnsafeStr
import Derived.Lib.Bytealg
set_option linter.unusedSimpArgs false
set_option linter.unusedVariables false
set_option maxRecDepth 10000
namespace Go.Proofs.Ytfgjinfmlmcpiaa
open Go.RowKit

def tyT:Nat→Option TE
 | 1=>some ⟨.other,1,8,(.v .nilFunc)⟩
 | 2=>some ⟨.int .i64,1,8,(.v (.int .i64 0))⟩
 | 3=>some ⟨.int .i64,1,8,(.v (.int .i64 0))⟩
 | 4=>some ⟨.bool,1,1,(.v (.bool false))⟩
 | 5=>some ⟨.int .u8,1,1,(.v (.int .u8 0))⟩
 | 9=>some ⟨.str,1,16,(.v (.string (B [])))⟩
 | 22=>some ⟨.slice 34,1,24,(.v (.slice none 0 0))⟩
 | 24=>some ⟨.ptr 50,1,8,(.v (.pointer none))⟩
 | 25=>some ⟨.int .i64,1,8,(.v (.int .i64 0))⟩
 | 28=>some ⟨.slice 53,1,24,(.v (.slice none 0 0))⟩
 | 30=>some ⟨.struct [(3,0),(3,1),(28,2)],3,40,(.cons (.v (.int .i64 0)) (.cons (.v (.int .i64 0)) (.cons (.v (.slice none 0 0)) .nil)))⟩
 | 34=>some ⟨.struct [(3,0),(2,1)],2,16,(.cons (.v (.int .i64 0)) (.cons (.v (.int .i64 0)) .nil))⟩
 | 41=>some ⟨.slice 3,1,24,(.v (.slice none 0 0))⟩
 | 44=>some ⟨.slice 5,1,24,(.v (.slice none 0 0))⟩
 | 45=>some ⟨.slice 2,1,24,(.v (.slice none 0 0))⟩
 | 48=>some ⟨.map 3 57,1,8,(.v (.map none))⟩
 | 50=>some ⟨.struct [(3,0),(3,1),(48,2)],3,24,(.cons (.v (.int .i64 0)) (.cons (.v (.int .i64 0)) (.cons (.v (.map none)) .nil)))⟩
 | 53=>some ⟨.struct [(3,0),(2,1),(3,2),(3,3)],4,32,(.cons (.v (.int .i64 0)) (.cons (.v (.int .i64 0)) (.cons (.v (.int .i64 0)) (.cons (.v (.int .i64 0)) .nil))))⟩
 | 57=>some ⟨.struct [(2,0),(3,1),(3,2)],3,24,(.cons (.v (.int .i64 0)) (.cons (.v (.int .i64 0)) (.cons (.v (.int .i64 0)) .nil)))⟩
 | 69=>some ⟨.int .u64,1,8,(.v (.int .u64 0))⟩
 | 71=>some ⟨.int .i64,1,8,(.v (.int .i64 0))⟩
 | 80=>some ⟨.int .u32,1,4,(.v (.int .u32 0))⟩
 | 82=>some ⟨.int .u64,1,8,(.v (.int .u64 0))⟩
 | 83=>some ⟨.int .u64,1,8,(.v (.int .u64 0))⟩
 | _=>none
set_option maxRecDepth 20000 in
set_option maxHeartbeats 4000000 in
theorem kw7:TOK Try.prog tyT:=by
 intro t e h
 unfold tyT at h
 split at h
 all_goals first|(cases h;kernel_rfl)|(cases h;done)
def gtab:Nat→D
 | _=>.dead
def jb6 (P:Program):Env:=⟨P,tyT,gtab,0⟩
theorem kr9:Try.prog.follows .mixedOrders=true:=by kernel_rfl
theorem dsx {p:Prop} (h:p:=by (simp only [ja5,implies_true,setD,bslF,jc6,jc1,List.zip_cons_cons,List.zip_nil_right,List.zip_nil_left,ja4,rng0,rng1,rng2,rng3,rng4,rng5,rng6,rng7,rng8,List.getD_cons_zero,List.getD_cons_succ,Nat.reduceLeDiff,decide_true,decide_false,List.all_cons,List.all_nil,dqF,nilF,jd8,ja2,Op.operands,Call.operands,evD,cD,gip,upd,look,List.map,List.map_cons,List.map_nil,binF,binI,shI,binS,unF,wD,kLo,kHi,kMod,jd5,jd1,jd2,jc8,jc7,jd0,jc9,lenF,lenD,jc5,jb7,minF,jc3,cutL,bndF,sub,nc,aggT,aggB,scB,tnth,jc2,L_B,L_mk,List.getElem?_cons_zero,List.getElem?_cons_succ,reduceIte,reduceCtorEq,Option.isSome,List.toList_toArray,Nat.reduceAdd,Nat.reduceSub,Nat.reduceMul,Nat.reduceEqDiff,Nat.reduceLT,Nat.reduceBEq,mkF,mkG,Bool.and_true,Bool.true_and,Bool.and_false,Bool.false_and,beq_self_eq_true,mkC,Int.reduceToNat,Int.toNat_natCast,Int.reduceAdd,Int.reduceSub,Int.reduceMul,Nat.zero_add,Nat.add_zero,Nat.mul_one,and_true,true_and,Option.getD_some,Option.getD_none,ne_eq,not_true_eq_false,not_false_eq_true,decide_not,Bool.not_true,Bool.not_false,Int.reduceLT,Int.reduceLE,Int.reduceEq,Int.reduceNe,Int.reduceGT,Int.reduceGE,gt_iff_lt,ge_iff_le,Nat.reduceLT,Nat.reduceLeDiff,u32D,u8D,iD,bD,strD,jb1,jb3,ja7,ja6,ja8,jb0,ja9,jb5,jb4,jb6,tyT,gtab,hX];exact rfl)):p:=h
theorem dsy {p:Prop} (h:p:=by (simp only [ja5,implies_true,setD,bslF,jc6,jc1,List.zip_cons_cons,List.zip_nil_right,List.zip_nil_left,ja4,rng0,rng1,rng2,rng3,rng4,rng5,rng6,rng7,rng8,List.getD_cons_zero,List.getD_cons_succ,Nat.reduceLeDiff,decide_true,decide_false,List.all_cons,List.all_nil,dqF,nilF,jd8,ja2,Op.operands,Call.operands,evD,cD,gip,upd,look,List.map,List.map_cons,List.map_nil,binF,binI,shI,binS,unF,wD,kLo,kHi,kMod,jd5,jd1,jd2,jc8,jc7,jd0,jc9,lenF,lenD,jc5,jb7,minF,jc3,cutL,bndF,sub,nc,aggT,aggB,scB,tnth,jc2,L_B,L_mk,List.getElem?_cons_zero,List.getElem?_cons_succ,reduceIte,reduceCtorEq,Option.isSome,List.toList_toArray,Nat.reduceAdd,Nat.reduceSub,Nat.reduceMul,Nat.reduceEqDiff,Nat.reduceLT,Nat.reduceBEq,mkF,mkG,Bool.and_true,Bool.true_and,Bool.and_false,Bool.false_and,beq_self_eq_true,mkC,Int.reduceToNat,Int.toNat_natCast,Int.reduceAdd,Int.reduceSub,Int.reduceMul,Nat.zero_add,Nat.add_zero,Nat.mul_one,and_true,true_and,Option.getD_some,Option.getD_none,ne_eq,not_true_eq_false,not_false_eq_true,decide_not,Bool.not_true,Bool.not_false,Int.reduceLT,Int.reduceLE,Int.reduceEq,Int.reduceNe,Int.reduceGT,Int.reduceGE,gt_iff_lt,ge_iff_le,Nat.reduceLT,Nat.reduceLeDiff,u32D,u8D,iD,bD,strD,jb1,jb3,ja7,ja6,ja8,jb0,ja9,jb5,jb4,jb6,tyT,gtab,hX]<;>exact rfl)):p:=h
theorem dsh {p:Prop} (h:p:=by (simp only [ja5,implies_true,setD,bslF,jc6,jc1,List.zip_cons_cons,List.zip_nil_right,List.zip_nil_left,ja4,rng0,rng1,rng2,rng3,rng4,rng5,rng6,rng7,rng8,List.getD_cons_zero,List.getD_cons_succ,Nat.reduceLeDiff,decide_true,decide_false,List.all_cons,List.all_nil,dqF,nilF,jd8,ja2,Op.operands,Call.operands,evD,cD,gip,upd,look,List.map,List.map_cons,List.map_nil,binF,binI,shI,binS,unF,wD,kLo,kHi,kMod,jd5,jd1,jd2,jc8,jc7,jd0,jc9,lenF,lenD,jc5,jb7,minF,jc3,cutL,bndF,sub,nc,aggT,aggB,scB,tnth,jc2,L_B,L_mk,List.getElem?_cons_zero,List.getElem?_cons_succ,reduceIte,reduceCtorEq,Option.isSome,List.toList_toArray,Nat.reduceAdd,Nat.reduceSub,Nat.reduceMul,Nat.reduceEqDiff,Nat.reduceLT,Nat.reduceBEq,mkF,mkG,Bool.and_true,Bool.true_and,Bool.and_false,Bool.false_and,beq_self_eq_true,mkC,Int.reduceToNat,Int.toNat_natCast,Int.reduceAdd,Int.reduceSub,Int.reduceMul,Nat.zero_add,Nat.add_zero,Nat.mul_one,and_true,true_and,Option.getD_some,Option.getD_none,ne_eq,not_true_eq_false,not_false_eq_true,decide_not,Bool.not_true,Bool.not_false,Int.reduceLT,Int.reduceLE,Int.reduceEq,Int.reduceNe,Int.reduceGT,Int.reduceGE,gt_iff_lt,ge_iff_le,Nat.reduceLT,Nat.reduceLeDiff,u32D,u8D,iD,bD,strD,jb1,jb3,ja7,ja6,ja8,jb0,ja9,jb5,jb4,hX]<;>exact rfl)):p:=h
theorem dsa {p:Prop} (h:p:=by (simp only [Array.toList_append,List.cons_append,List.nil_append,ja5,implies_true,setD,bslF,jc6,jc1,List.zip_cons_cons,List.zip_nil_right,List.zip_nil_left,ja4,rng0,rng1,rng2,rng3,rng4,rng5,rng6,rng7,rng8,List.getD_cons_zero,List.getD_cons_succ,Nat.reduceLeDiff,decide_true,decide_false,List.all_cons,List.all_nil,dqF,nilF,jd8,ja2,Op.operands,Call.operands,evD,cD,gip,upd,look,List.map,List.map_cons,List.map_nil,binF,binI,shI,binS,unF,wD,kLo,kHi,kMod,jd5,jd1,jd2,jc8,jc7,jd0,jc9,lenF,lenD,jc5,jb7,minF,jc3,cutL,bndF,sub,nc,aggT,aggB,scB,tnth,jc2,L_B,L_mk,List.getElem?_cons_zero,List.getElem?_cons_succ,reduceIte,reduceCtorEq,Option.isSome,List.toList_toArray,Nat.reduceAdd,Nat.reduceSub,Nat.reduceMul,Nat.reduceEqDiff,Nat.reduceLT,Nat.reduceBEq,mkF,mkG,Bool.and_true,Bool.true_and,Bool.and_false,Bool.false_and,beq_self_eq_true,mkC,Int.reduceToNat,Int.toNat_natCast,Int.reduceAdd,Int.reduceSub,Int.reduceMul,Nat.zero_add,Nat.add_zero,Nat.mul_one,and_true,true_and,Option.getD_some,Option.getD_none,ne_eq,not_true_eq_false,not_false_eq_true,decide_not,Bool.not_true,Bool.not_false,Int.reduceLT,Int.reduceLE,Int.reduceEq,Int.reduceNe,Int.reduceGT,Int.reduceGE,gt_iff_lt,ge_iff_le,Nat.reduceLT,Nat.reduceLeDiff,u32D,u8D,iD,bD,strD,jb1,jb3,ja7,ja6,ja8,jb0,ja9,jb5,jb4,jb6,tyT,gtab,hX];exact rfl)):p:=h
theorem dsb {p:Prop} (h:p:=by (simp only [Array.toList_append,List.cons_append,List.nil_append,ja5,implies_true,setD,bslF,jc6,jc1,List.zip_cons_cons,List.zip_nil_right,List.zip_nil_left,ja4,rng0,rng1,rng2,rng3,rng4,rng5,rng6,rng7,rng8,List.getD_cons_zero,List.getD_cons_succ,Nat.reduceLeDiff,decide_true,decide_false,List.all_cons,List.all_nil,dqF,nilF,jd8,ja2,Op.operands,Call.operands,evD,cD,gip,upd,look,List.map,List.map_cons,List.map_nil,binF,binI,shI,binS,unF,wD,kLo,kHi,kMod,jd5,jd1,jd2,jc8,jc7,jd0,jc9,lenF,lenD,jc5,jb7,minF,jc3,cutL,bndF,sub,nc,aggT,aggB,scB,tnth,jc2,L_B,L_mk,List.getElem?_cons_zero,List.getElem?_cons_succ,reduceIte,reduceCtorEq,Option.isSome,List.toList_toArray,Nat.reduceAdd,Nat.reduceSub,Nat.reduceMul,Nat.reduceEqDiff,Nat.reduceLT,Nat.reduceBEq,mkF,mkG,Bool.and_true,Bool.true_and,Bool.and_false,Bool.false_and,beq_self_eq_true,mkC,Int.reduceToNat,Int.toNat_natCast,Int.reduceAdd,Int.reduceSub,Int.reduceMul,Nat.zero_add,Nat.add_zero,Nat.mul_one,and_true,true_and,Option.getD_some,Option.getD_none,ne_eq,not_true_eq_false,not_false_eq_true,decide_not,Bool.not_true,Bool.not_false,Int.reduceLT,Int.reduceLE,Int.reduceEq,Int.reduceNe,Int.reduceGT,Int.reduceGE,gt_iff_lt,ge_iff_le,Nat.reduceLT,Nat.reduceLeDiff,u32D,u8D,iD,bD,strD,jb1,jb3,ja7,ja6,ja8,jb0,ja9,jb5,jb4,jb6,tyT,gtab,hX]<;>exact rfl)):p:=h
theorem dse {p:Prop} (h:p:=by (simp only [St.put,kilH,kil,kilB,List.map,List.set,List.length,List.nil_append,List.cons_append,List.append_nil,Option.map,jg7,setD,srcD,ja5,ja5,implies_true,setD,bslF,jc6,jc1,List.zip_cons_cons,List.zip_nil_right,List.zip_nil_left,ja4,rng0,rng1,rng2,rng3,rng4,rng5,rng6,rng7,rng8,List.getD_cons_zero,List.getD_cons_succ,Nat.reduceLeDiff,decide_true,decide_false,List.all_cons,List.all_nil,dqF,nilF,jd8,ja2,Op.operands,Call.operands,evD,cD,gip,upd,look,List.map,List.map_cons,List.map_nil,binF,binI,shI,binS,unF,wD,kLo,kHi,kMod,jd5,jd1,jd2,jc8,jc7,jd0,jc9,lenF,lenD,jc5,jb7,minF,jc3,cutL,bndF,sub,nc,aggT,aggB,scB,tnth,jc2,L_B,L_mk,List.getElem?_cons_zero,List.getElem?_cons_succ,reduceIte,reduceCtorEq,Option.isSome,List.toList_toArray,Nat.reduceAdd,Nat.reduceSub,Nat.reduceMul,Nat.reduceEqDiff,Nat.reduceLT,Nat.reduceBEq,mkF,mkG,Bool.and_true,Bool.true_and,Bool.and_false,Bool.false_and,beq_self_eq_true,mkC,Int.reduceToNat,Int.toNat_natCast,Int.reduceAdd,Int.reduceSub,Int.reduceMul,Nat.zero_add,Nat.add_zero,Nat.mul_one,and_true,true_and,Option.getD_some,Option.getD_none,u32D,u8D,iD,bD,strD,jb1,jb3,ja7,ja6,ja8,jb0,ja9,jb5,jb4,hX,jb6,tyT,gtab];exact rfl)):p:=h
theorem dsd {p:Prop} (h:p:=by (simp only [ja5,implies_true,setD,bslF,jc6,jc1,List.zip_cons_cons,List.zip_nil_right,List.zip_nil_left,ja4,rng0,rng1,rng2,rng3,rng4,rng5,rng6,rng7,rng8,List.getD_cons_zero,List.getD_cons_succ,Nat.reduceLeDiff,decide_true,decide_false,List.all_cons,List.all_nil,dqF,nilF,jd8,ja2,Op.operands,Call.operands,evD,cD,gip,upd,look,List.map,List.map_cons,List.map_nil,binF,binI,shI,binS,unF,wD,kLo,kHi,kMod,jd5,jd1,jd2,jc8,jc7,jd0,jc9,lenF,lenD,jc5,jb7,minF,jc3,cutL,bndF,sub,nc,aggT,aggB,scB,tnth,jc2,L_B,L_mk,List.getElem?_cons_zero,List.getElem?_cons_succ,reduceIte,reduceCtorEq,Option.isSome,List.toList_toArray,Nat.reduceAdd,Nat.reduceSub,Nat.reduceMul,Nat.reduceEqDiff,Nat.reduceLT,Nat.reduceBEq,mkF,mkG,Bool.and_true,Bool.true_and,Bool.and_false,Bool.false_and,beq_self_eq_true,mkC,Int.reduceToNat,Int.toNat_natCast,Int.reduceAdd,Int.reduceSub,Int.reduceMul,Nat.zero_add,Nat.add_zero,Nat.mul_one,and_true,true_and,Option.getD_some,Option.getD_none,u32D,u8D,iD,bD,strD,jb1,jb3,ja7,ja6,ja8,jb0,ja9,jb5,jb4,jb6,tyT,gtab,hX];exact rfl)):p:=h
theorem lnx {p:Prop} (h:p:=by (simp only [L_B,L_mk,bndF,Option.getD_some,Option.getD_none,List.length_cons,List.length_nil,List.length_append,List.length_map,List.length_range,List.length_drop,List.length_take,List.length_replicate,List.length_set,List.length_reverse,hX]<;>omega)):p:=h
theorem dz1 {p:Prop} (h:p:=by (simp only [St.put,kilH,kilB,kil,List.map_cons,List.map_nil,List.set,List.length,List.nil_append,List.cons_append,List.append_nil,Option.map,L_B,Nat.reduceAdd,Nat.zero_add,reduceIte,Nat.reduceEqDiff,hX];exact rfl)):p:=h
theorem dz2 {p:Prop} (h:p:=by (simp only [St.put,kilH,kil,kilB,List.map,List.set,List.length,List.nil_append,List.cons_append,List.append_nil,Option.map,jg7,setD,srcD,ja5,ja5,implies_true,setD,bslF,jc6,jc1,List.zip_cons_cons,List.zip_nil_right,List.zip_nil_left,ja4,rng0,rng1,rng2,rng3,rng4,rng5,rng6,rng7,rng8,List.getD_cons_zero,List.getD_cons_succ,Nat.reduceLeDiff,decide_true,decide_false,List.all_cons,List.all_nil,dqF,nilF,jd8,ja2,Op.operands,Call.operands,evD,cD,gip,upd,look,List.map,List.map_cons,List.map_nil,binF,binI,shI,binS,unF,wD,kLo,kHi,kMod,jd5,jd1,jd2,jc8,jc7,jd0,jc9,lenF,lenD,jc5,jc3,cutL,bndF,sub,nc,aggT,aggB,scB,tnth,jc2,L_B,L_mk,List.getElem?_cons_zero,List.getElem?_cons_succ,reduceIte,reduceCtorEq,Option.isSome,List.toList_toArray,Nat.reduceAdd,Nat.reduceSub,Nat.reduceMul,Nat.reduceEqDiff,Nat.reduceLT,Nat.reduceBEq,mkF,Bool.and_true,Bool.true_and,Bool.and_false,Bool.false_and,beq_self_eq_true,mkC,Int.reduceToNat,Int.toNat_natCast,Int.reduceAdd,Int.reduceSub,Int.reduceMul,Nat.zero_add,Nat.add_zero,Nat.mul_one,and_true,true_and,Option.getD_some,Option.getD_none,u32D,u8D,iD,bD,strD,jb1,jb3,ja7,ja6,ja8,jb0,ja9,jb5,jb4,jb6,tyT,gtab,hX];exact rfl)):p:=h
theorem dz5 {p:Prop} (h:p:=by (simp only [eqaF,and_self,if_true,ja5,implies_true,setD,bslF,jc6,jc1,List.zip_cons_cons,List.zip_nil_right,List.zip_nil_left,ja4,rng0,rng1,rng2,rng3,rng4,rng5,rng6,rng7,rng8,List.getD_cons_zero,List.getD_cons_succ,Nat.reduceLeDiff,decide_true,decide_false,List.all_cons,List.all_nil,dqF,nilF,jd8,ja2,Op.operands,Call.operands,evD,cD,gip,upd,look,List.map,List.map_cons,List.map_nil,binF,binI,shI,binS,unF,wD,kLo,kHi,kMod,jd5,jd1,jd2,jc8,jc7,jd0,jc9,lenF,lenD,jc5,jb7,minF,jc3,cutL,bndF,sub,nc,aggT,aggB,scB,tnth,jc2,L_B,L_mk,List.getElem?_cons_zero,List.getElem?_cons_succ,reduceIte,reduceCtorEq,Option.isSome,List.toList_toArray,Nat.reduceAdd,Nat.reduceSub,Nat.reduceMul,Nat.reduceEqDiff,Nat.reduceLT,Nat.reduceBEq,mkF,mkG,Bool.and_true,Bool.true_and,Bool.and_false,Bool.false_and,beq_self_eq_true,mkC,Int.reduceToNat,Int.toNat_natCast,Int.reduceAdd,Int.reduceSub,Int.reduceMul,Nat.zero_add,Nat.add_zero,Nat.mul_one,and_true,true_and,Option.getD_some,Option.getD_none,u32D,u8D,iD,bD,strD,jb1,jb3,ja7,ja6,ja8,jb0,ja9,jb5,jb4,jb6,tyT,gtab,hX];exact rfl)):p:=h
theorem dz6 {p:Prop} (h:p:=by (simp only [pick,kil,ja5,implies_true,setD,bslF,jc6,jc1,List.zip_cons_cons,List.zip_nil_right,List.zip_nil_left,ja4,rng0,rng1,rng2,rng3,rng4,rng5,rng6,rng7,rng8,List.getD_cons_zero,List.getD_cons_succ,Nat.reduceLeDiff,decide_true,decide_false,List.all_cons,List.all_nil,dqF,nilF,jd8,ja2,Op.operands,Call.operands,evD,cD,gip,upd,look,List.map,List.map_cons,List.map_nil,binF,binI,shI,binS,unF,wD,kLo,kHi,kMod,jd5,jd1,jd2,jc8,jc7,jd0,jc9,lenF,lenD,jc5,jb7,minF,jc3,cutL,bndF,sub,nc,aggT,aggB,scB,tnth,jc2,L_B,L_mk,List.getElem?_cons_zero,List.getElem?_cons_succ,reduceIte,reduceCtorEq,Option.isSome,List.toList_toArray,Nat.reduceAdd,Nat.reduceSub,Nat.reduceMul,Nat.reduceEqDiff,Nat.reduceLT,Nat.reduceBEq,mkF,mkG,Bool.and_true,Bool.true_and,Bool.and_false,Bool.false_and,beq_self_eq_true,mkC,Int.reduceToNat,Int.toNat_natCast,Int.reduceAdd,Int.reduceSub,Int.reduceMul,Nat.zero_add,Nat.add_zero,Nat.mul_one,and_true,true_and,Option.getD_some,Option.getD_none,ne_eq,not_true_eq_false,not_false_eq_true,decide_not,Bool.not_true,Bool.not_false,Int.reduceLT,Int.reduceLE,Int.reduceEq,Int.reduceNe,Int.reduceGT,Int.reduceGE,gt_iff_lt,ge_iff_le,Nat.reduceLT,Nat.reduceLeDiff,u32D,u8D,iD,bD,strD,jb1,jb3,ja7,ja6,ja8,jb0,ja9,jb5,jb4,hX];exact rfl)):p:=h
theorem dz7 {p:Prop} (h:p:=by (simp only [jf8,Array.toList_append,List.cons_append,List.nil_append,ja5,implies_true,setD,bslF,jc6,jc1,List.zip_cons_cons,List.zip_nil_right,List.zip_nil_left,ja4,rng0,rng1,rng2,rng3,rng4,rng5,rng6,rng7,rng8,List.getD_cons_zero,List.getD_cons_succ,Nat.reduceLeDiff,decide_true,decide_false,List.all_cons,List.all_nil,dqF,nilF,jd8,ja2,Op.operands,Call.operands,evD,cD,gip,upd,look,List.map,List.map_cons,List.map_nil,binF,binI,shI,binS,unF,wD,kLo,kHi,kMod,jd5,jd1,jd2,jc8,jc7,jd0,jc9,lenF,lenD,jc5,jb7,minF,jc3,cutL,bndF,sub,nc,aggT,aggB,scB,tnth,jc2,L_B,L_mk,List.getElem?_cons_zero,List.getElem?_cons_succ,reduceIte,reduceCtorEq,Option.isSome,List.toList_toArray,Nat.reduceAdd,Nat.reduceSub,Nat.reduceMul,Nat.reduceEqDiff,Nat.reduceLT,Nat.reduceBEq,mkF,mkG,Bool.and_true,Bool.true_and,Bool.and_false,Bool.false_and,beq_self_eq_true,mkC,Int.reduceToNat,Int.toNat_natCast,Int.reduceAdd,Int.reduceSub,Int.reduceMul,Nat.zero_add,Nat.add_zero,Nat.mul_one,and_true,true_and,Option.getD_some,Option.getD_none,ne_eq,not_true_eq_false,not_false_eq_true,decide_not,Bool.not_true,Bool.not_false,Int.reduceLT,Int.reduceLE,Int.reduceEq,Int.reduceNe,Int.reduceGT,Int.reduceGE,gt_iff_lt,ge_iff_le,Nat.reduceLT,Nat.reduceLeDiff,u32D,u8D,iD,bD,strD,jb1,jb3,ja7,ja6,ja8,jb0,ja9,jb5,jb4,jb6,tyT,gtab,hX];exact rfl)):p:=h
theorem dz9 {p:Prop} (h:p:=by (simp only [St.put,kilH,kil,kilB,List.map,List.set,List.length,List.nil_append,List.cons_append,List.append_nil,Option.map,jg7,setD,srcD,ja5,ja5,implies_true,setD,bslF,jc6,jc1,List.zip_cons_cons,List.zip_nil_right,List.zip_nil_left,ja4,rng0,rng1,rng2,rng3,rng4,rng5,rng6,rng7,rng8,List.getD_cons_zero,List.getD_cons_succ,Nat.reduceLeDiff,decide_true,decide_false,List.all_cons,List.all_nil,dqF,nilF,jd8,ja2,Op.operands,Call.operands,evD,cD,gip,upd,look,List.map,List.map_cons,List.map_nil,binF,binI,shI,binS,unF,wD,kLo,kHi,kMod,jd5,jd1,jd2,jc8,jc7,jd0,jc9,lenF,lenD,jc5,jb7,minF,jc3,cutL,bndF,sub,nc,aggT,aggB,scB,tnth,jc2,L_B,L_mk,List.getElem?_cons_zero,List.getElem?_cons_succ,reduceIte,reduceCtorEq,Option.isSome,List.toList_toArray,Nat.reduceAdd,Nat.reduceSub,Nat.reduceMul,Nat.reduceEqDiff,Nat.reduceLT,Nat.reduceBEq,mkF,mkG,Bool.and_true,Bool.true_and,Bool.and_false,Bool.false_and,beq_self_eq_true,mkC,Int.reduceToNat,Int.toNat_natCast,Int.reduceAdd,Int.reduceSub,Int.reduceMul,Nat.zero_add,Nat.add_zero,Nat.mul_one,and_true,true_and,Option.getD_some,Option.getD_none,ne_eq,not_true_eq_false,not_false_eq_true,decide_not,Bool.not_true,Bool.not_false,Int.reduceLT,Int.reduceLE,Int.reduceEq,Int.reduceNe,Int.reduceGT,Int.reduceGE,gt_iff_lt,ge_iff_le,Nat.reduceLT,Nat.reduceLeDiff,u32D,u8D,iD,bD,strD,jb1,jb3,ja7,ja6,ja8,jb0,ja9,jb5,jb4,jb6,tyT,gtab,hX]<;>exact rfl)):p:=h
theorem dz10 {p:Prop} (h:p:=by (simp only [kO,kil,Array.toList_append,List.cons_append,List.nil_append,ja5,implies_true,setD,bslF,jc6,jc1,List.zip_cons_cons,List.zip_nil_right,List.zip_nil_left,ja4,rng0,rng1,rng2,rng3,rng4,rng5,rng6,rng7,rng8,List.getD_cons_zero,List.getD_cons_succ,Nat.reduceLeDiff,decide_true,decide_false,List.all_cons,List.all_nil,dqF,nilF,jd8,ja2,Op.operands,Call.operands,evD,cD,gip,upd,look,List.map,List.map_cons,List.map_nil,binF,binI,shI,binS,unF,wD,kLo,kHi,kMod,jd5,jd1,jd2,jc8,jc7,jd0,jc9,lenF,lenD,jc5,jb7,minF,jc3,cutL,bndF,sub,nc,aggT,aggB,scB,tnth,jc2,L_B,L_mk,List.getElem?_cons_zero,List.getElem?_cons_succ,reduceIte,reduceCtorEq,Option.isSome,List.toList_toArray,Nat.reduceAdd,Nat.reduceSub,Nat.reduceMul,Nat.reduceEqDiff,Nat.reduceLT,Nat.reduceBEq,mkF,mkG,Bool.and_true,Bool.true_and,Bool.and_false,Bool.false_and,beq_self_eq_true,mkC,Int.reduceToNat,Int.toNat_natCast,Int.reduceAdd,Int.reduceSub,Int.reduceMul,Nat.zero_add,Nat.add_zero,Nat.mul_one,and_true,true_and,Option.getD_some,Option.getD_none,ne_eq,not_true_eq_false,not_false_eq_true,decide_not,Bool.not_true,Bool.not_false,Int.reduceLT,Int.reduceLE,Int.reduceEq,Int.reduceNe,Int.reduceGT,Int.reduceGE,gt_iff_lt,ge_iff_le,Nat.reduceLT,Nat.reduceLeDiff,u32D,u8D,iD,bD,strD,jb1,jb3,ja7,ja6,ja8,jb0,ja9,jb5,jb4,jb6,tyT,gtab,hX]<;>exact rfl)):p:=h
theorem dz11 {p:Prop} (h:p:=by (simp only [kO,kil,kilH,kilB,List.map_cons,List.map_nil,List.set,List.length,List.nil_append,List.cons_append,List.append_nil,Option.map,Array.toList_append,ja5,implies_true,setD,bslF,jc6,jc1,List.zip_cons_cons,List.zip_nil_right,List.zip_nil_left,ja4,rng0,rng1,rng2,rng3,rng4,rng5,rng6,rng7,rng8,List.getD_cons_zero,List.getD_cons_succ,Nat.reduceLeDiff,decide_true,decide_false,List.all_cons,List.all_nil,dqF,nilF,jd8,ja2,Op.operands,Call.operands,evD,cD,gip,upd,look,List.map,List.map_cons,List.map_nil,binF,binI,shI,binS,unF,wD,kLo,kHi,kMod,jd5,jd1,jd2,jc8,jc7,jd0,jc9,lenF,lenD,jc5,jb7,minF,jc3,cutL,bndF,sub,nc,aggT,aggB,scB,tnth,jc2,L_B,L_mk,List.getElem?_cons_zero,List.getElem?_cons_succ,reduceIte,reduceCtorEq,Option.isSome,List.toList_toArray,Nat.reduceAdd,Nat.reduceSub,Nat.reduceMul,Nat.reduceEqDiff,Nat.reduceLT,Nat.reduceBEq,mkF,mkG,Bool.and_true,Bool.true_and,Bool.and_false,Bool.false_and,beq_self_eq_true,mkC,Int.reduceToNat,Int.toNat_natCast,Int.reduceAdd,Int.reduceSub,Int.reduceMul,Nat.zero_add,Nat.add_zero,Nat.mul_one,and_true,true_and,Option.getD_some,Option.getD_none,ne_eq,not_true_eq_false,not_false_eq_true,decide_not,Bool.not_true,Bool.not_false,Int.reduceLT,Int.reduceLE,Int.reduceEq,Int.reduceNe,Int.reduceGT,Int.reduceGE,gt_iff_lt,ge_iff_le,Nat.reduceLT,Nat.reduceLeDiff,u32D,u8D,iD,bD,strD,jb1,jb3,ja7,ja6,ja8,jb0,ja9,jb5,jb4,jb6,tyT,gtab,hX]<;>exact rfl)):p:=h
theorem dz12 {p:Prop} (h:p:=by (simp only [L_B,L_mk,bndF,Option.getD_some,Option.getD_none,List.length_cons,List.length_nil,List.length_append,List.length_map,List.length_range,List.length_drop,List.length_take,List.length_replicate,List.length_set,List.length_reverse,Nat.reduceAdd,Nat.zero_add,hX]<;>exact rfl)):p:=h
theorem dz13 {p:Prop} (h:p:=by (simp only [suD,suB,List.map_cons,List.map_nil,Option.map,List.length_cons,List.length_nil,Nat.reduceAdd,Nat.add_zero,hX]<;>exact rfl)):p:=h
theorem dz14 {p:Prop} (h:p:=by (simp only [suD,List.length_cons,List.length_nil,Nat.reduceAdd,Nat.add_zero,hX]<;>exact rfl)):p:=h
theorem jo8 {C:Cx}{o:Oper}{st:St}{t:Nat}{x y:Operand}{p:Prop}{h':List (Option Bk)} (ho:o.op = .store t x y) (hd:dstB C o=true) (hf:jg7 C.T st.h t (evD C st x) (evD C st y)=some (p,h'):=by exact dz2) (hp:p:=by first|exact trivial|exact ⟨by simp,rfl⟩|exact ky9 _ _|exact kw8 _|omega|(simp only [L_B,bndF,Option.getD_some,Option.getD_none,List.length_drop,List.length_take]<;>omega)|(refine ⟨?_,fun _ _=>rfl⟩;(simp only [L_B,bndF,Option.getD_some,Option.getD_none,List.length_drop,List.length_take]<;>omega))):DO C o st (St.put { st with h:=h' } o.dst .dead):=kk8 ho hd hf hp
theorem kp8 {C:Cx}{o:Oper}{st:St}{T:Nat}{x:Operand} (ho:o.op = .box T x) (hd:dstB C o=true) (hx:(aggB (evD C st x)||scB (evD C st x))=true:=by exact dz2):DO C o st (St.put { st with h:=st.h++[some (.one (evD C st x))] } o.dst (.ptr st.h.length 0)):=kh3 ho hd hx
theorem kq5 {C:Cx}{ops:Array Oper}{K:St→Prop}{o:Oper}{rest:List Oper}{s:Nat→D}{h:List (Option Bk)}{op:BinOp}{ty u:Nat}{x y:Operand}{a b d:D} (t:Nat) (hg:o.guard=none) (hd:o.dst=some t) (ht':Nat.blt t C.n=true) (ho:o.op = .binOp op ty x y u)
  (k:DR C ops K rest ⟨upd s t d,h⟩) (hm:C.P.eqGuardType C.P.depth ty=false:=by kernel_rfl) (e:ja2 C ⟨s,h⟩ o=[a,b]:=by exact dsd) (hf:eqaF C.T op ty a b=some d:=by exact dz5):DR C ops K (o::rest) ⟨s,h⟩:=DR_c t hg hd ht' e (kh6 ho hm hf) k
theorem kl9 {C:Cx}{ops:Array Oper}{K:St→Prop}{o:Oper}{rest:List Oper}{s:Nat→D}{h:List (Option Bk)}{op:BinOp}{ty u:Nat}{x y:Operand}{a b d:D} (t:Nat) (hg:o.guard=none) (hd:o.dst=some t) (ht':Nat.blt t C.n=true) (ho:o.op = .binOp op ty x y u)
  (k:DRq C ops K rest ⟨upd s t d,h⟩) (hm:C.P.eqGuardType C.P.depth ty=false:=by kernel_rfl) (e:ja2 C ⟨s,h⟩ o=[a,b]:=by exact dsd) (hf:eqaF C.T op ty a b=some d:=by exact dz5):DRq C ops K (o::rest) ⟨s,h⟩:=jt6 t hg hd ht' e (kh6 ho hm hf) k
theorem kf6 {C:Cx}{o:Oper}{st:St}{s x:Operand}{t u el sz l n:Nat}{e:TE}{L es:List D}{p:Prop} (ho:o.op = .call { callee:=.builtin .append,args:=#[s,x],argTypes:=#[t,u] }) (hd:dstB C o=true) (hT:appT C t u el sz e) (hfx:C.fx l=none)
  (hs:evD C st s = .own l n el sz:=by exact dse) (hl:st.h[l]?=some (some (.row L el sz)):=by exact dse) (hx:srcD st.h (evD C st x)=some (p,es):=by exact dse) (hn:n=L.length:=by first|exact trivial|omega|(intro d hd;simp only [List.mem_cons,List.not_mem_nil,or_false,List.mem_map] at hd;rcases hd with rfl|⟨_,_,rfl⟩<;>exact ⟨rfl,rfl⟩)|(intro d hd;simp only [List.mem_cons,List.not_mem_nil,or_false,List.mem_map] at hd;rcases hd with rfl<;>exact ⟨rfl,rfl⟩)|(intro d hd;simp only [List.mem_cons,List.not_mem_nil,or_false] at hd;rcases hd with rfl|rfl<;>exact ⟨rfl,rfl⟩)|(intro d hd;simp only [List.mem_map] at hd;obtain ⟨_,_,rfl⟩:=hd;exact ⟨rfl,rfl⟩)|(simp only [L_B,List.length_append,List.length_cons,List.length_nil,List.length_map,List.length_replicate,List.length_range,hX]<;>omega)|rfl) (hp:p:=by first|exact trivial|omega|(intro d hd;simp only [List.mem_cons,List.not_mem_nil,or_false,List.mem_map] at hd;rcases hd with rfl|⟨_,_,rfl⟩<;>exact ⟨rfl,rfl⟩)|(intro d hd;simp only [List.mem_cons,List.not_mem_nil,or_false,List.mem_map] at hd;rcases hd with rfl<;>exact ⟨rfl,rfl⟩)|(intro d hd;simp only [List.mem_cons,List.not_mem_nil,or_false] at hd;rcases hd with rfl|rfl<;>exact ⟨rfl,rfl⟩)|(intro d hd;simp only [List.mem_map] at hd;obtain ⟨_,_,rfl⟩:=hd;exact ⟨rfl,rfl⟩)|(simp only [L_B,List.length_append,List.length_cons,List.length_nil,List.length_map,List.length_replicate,List.length_range,hX]<;>omega)|rfl) (hpure:∀d ∈ es,ja4 d=true∧nc d=sz:=by first|exact trivial|omega|(intro d hd;simp only [List.mem_cons,List.not_mem_nil,or_false,List.mem_map] at hd;rcases hd with rfl|⟨_,_,rfl⟩<;>exact ⟨rfl,rfl⟩)|(intro d hd;simp only [List.mem_cons,List.not_mem_nil,or_false,List.mem_map] at hd;rcases hd with rfl<;>exact ⟨rfl,rfl⟩)|(intro d hd;simp only [List.mem_cons,List.not_mem_nil,or_false] at hd;rcases hd with rfl|rfl<;>exact ⟨rfl,rfl⟩)|(intro d hd;simp only [List.mem_map] at hd;obtain ⟨_,_,rfl⟩:=hd;exact ⟨rfl,rfl⟩)|(simp only [L_B,List.length_append,List.length_cons,List.length_nil,List.length_map,List.length_replicate,List.length_range,hX]<;>omega)|rfl) (hb:(L.length+es.length)*e.bytes≤140737488355328:=by first|exact trivial|omega|(intro d hd;simp only [List.mem_cons,List.not_mem_nil,or_false,List.mem_map] at hd;rcases hd with rfl|⟨_,_,rfl⟩<;>exact ⟨rfl,rfl⟩)|(intro d hd;simp only [List.mem_cons,List.not_mem_nil,or_false,List.mem_map] at hd;rcases hd with rfl<;>exact ⟨rfl,rfl⟩)|(intro d hd;simp only [List.mem_cons,List.not_mem_nil,or_false] at hd;rcases hd with rfl|rfl<;>exact ⟨rfl,rfl⟩)|(intro d hd;simp only [List.mem_map] at hd;obtain ⟨_,_,rfl⟩:=hd;exact ⟨rfl,rfl⟩)|(simp only [L_B,List.length_append,List.length_cons,List.length_nil,List.length_map,List.length_replicate,List.length_range,hX]<;>omega)|rfl) :
  DO C o st (St.put ⟨fun t=>kil l (st.s t),(kilH l st.h).set l (some (.row (L++es) el sz))⟩ o.dst (.own l (n+es.length) el sz)):=jt5 ho hd hT hfx hs hl hx hn hp hpure hb
theorem jv5 {C:Cx}{o:Oper}{st:St}{s x:Operand}{t u el sz:Nat}{e:TE}{es:List D}{p:Prop} (ho:o.op = .call { callee:=.builtin .append,args:=#[s,x],argTypes:=#[t,u] }) (hd:dstB C o=true) (hT:appT C t u el sz e)
  (hs:evD C st s = .v (.slice none 0 0):=by exact dse) (hx:srcD st.h (evD C st x)=some (p,es):=by exact dse) (hp:p:=by first|exact trivial|omega|(intro d hd;simp only [List.mem_cons,List.not_mem_nil,or_false,List.mem_map] at hd;rcases hd with rfl|⟨_,_,rfl⟩<;>exact ⟨rfl,rfl⟩)|(intro d hd;simp only [List.mem_cons,List.not_mem_nil,or_false,List.mem_map] at hd;rcases hd with rfl<;>exact ⟨rfl,rfl⟩)|(intro d hd;simp only [List.mem_cons,List.not_mem_nil,or_false] at hd;rcases hd with rfl|rfl<;>exact ⟨rfl,rfl⟩)|(intro d hd;simp only [List.mem_map] at hd;obtain ⟨_,_,rfl⟩:=hd;exact ⟨rfl,rfl⟩)|(simp only [L_B,List.length_append,List.length_cons,List.length_nil,List.length_map,List.length_replicate,List.length_range,hX]<;>omega)|rfl) (hpure:∀d ∈ es,ja4 d=true∧nc d=sz:=by first|exact trivial|omega|(intro d hd;simp only [List.mem_cons,List.not_mem_nil,or_false,List.mem_map] at hd;rcases hd with rfl|⟨_,_,rfl⟩<;>exact ⟨rfl,rfl⟩)|(intro d hd;simp only [List.mem_cons,List.not_mem_nil,or_false,List.mem_map] at hd;rcases hd with rfl<;>exact ⟨rfl,rfl⟩)|(intro d hd;simp only [List.mem_cons,List.not_mem_nil,or_false] at hd;rcases hd with rfl|rfl<;>exact ⟨rfl,rfl⟩)|(intro d hd;simp only [List.mem_map] at hd;obtain ⟨_,_,rfl⟩:=hd;exact ⟨rfl,rfl⟩)|(simp only [L_B,List.length_append,List.length_cons,List.length_nil,List.length_map,List.length_replicate,List.length_range,hX]<;>omega)|rfl) (hb:es.length*e.bytes≤140737488355328:=by first|exact trivial|omega|(intro d hd;simp only [List.mem_cons,List.not_mem_nil,or_false,List.mem_map] at hd;rcases hd with rfl|⟨_,_,rfl⟩<;>exact ⟨rfl,rfl⟩)|(intro d hd;simp only [List.mem_cons,List.not_mem_nil,or_false,List.mem_map] at hd;rcases hd with rfl<;>exact ⟨rfl,rfl⟩)|(intro d hd;simp only [List.mem_cons,List.not_mem_nil,or_false] at hd;rcases hd with rfl|rfl<;>exact ⟨rfl,rfl⟩)|(intro d hd;simp only [List.mem_map] at hd;obtain ⟨_,_,rfl⟩:=hd;exact ⟨rfl,rfl⟩)|(simp only [L_B,List.length_append,List.length_cons,List.length_nil,List.length_map,List.length_replicate,List.length_range,hX]<;>omega)|rfl) :
  DO C o st (St.put ⟨st.s,st.h++[some (.row es el sz)]⟩ o.dst (.own st.h.length es.length el sz)):=jo5 ho hd hT hs hx hp hpure hb
theorem jy6 {C:Cx}{o:Oper}{st:St}{s t el:Nat}{x:Operand}{str:ByteArray} (ho:o.op = .convert s t x) (hd:dstB C o=true) (hS:jp3 C.T s=true) (hT:jl4 C.T t=some el) (hx:evD C st x = .v (.string str):=by exact dse) (hb:(L str).length≤140737488355328:=by first|exact trivial|omega|(intro d hd;simp only [List.mem_cons,List.not_mem_nil,or_false,List.mem_map] at hd;rcases hd with rfl|⟨_,_,rfl⟩<;>exact ⟨rfl,rfl⟩)|(intro d hd;simp only [List.mem_cons,List.not_mem_nil,or_false,List.mem_map] at hd;rcases hd with rfl<;>exact ⟨rfl,rfl⟩)|(intro d hd;simp only [List.mem_cons,List.not_mem_nil,or_false] at hd;rcases hd with rfl|rfl<;>exact ⟨rfl,rfl⟩)|(intro d hd;simp only [List.mem_map] at hd;obtain ⟨_,_,rfl⟩:=hd;exact ⟨rfl,rfl⟩)|(simp only [L_B,List.length_append,List.length_cons,List.length_nil,List.length_map,List.length_replicate,List.length_range,hX]<;>omega)|rfl) :
  DO C o st (St.put ⟨st.s,st.h++[some (.row ((L str).map ja5) el 1)]⟩ o.dst (.own st.h.length (L str).length el 1)):=jr6 ho hd hS hT hx hb
section
variable {C:Cx}{ops:Array Oper}{K:St→Prop}{o o':Oper}{rest:List Oper}{s:Nat→D}{h:List (Option Bk)}{p:Prop}{d:D}
theorem qx (t:Nat) (hg:o.guard=none) (hd:o.dst=some t) (ht':Nat.blt t C.n=true) (k:DR C ops K rest ⟨upd s t d,h⟩) (e:dqF C.T h o.op (ja2 C ⟨s,h⟩ o)=some (p,d):=by exact dsx)
  (hp:p:=by (repeat' (with_reducible apply And.intro))<;>first|(with_reducible exact True.intro)|omega|exact lnx|(intro d hd;simp only [List.mem_cons,List.not_mem_nil,or_false] at hd;(first|(subst hd;first|trivial|exact ⟨rfl,rfl⟩)|(rcases hd with rfl|rfl<;>first|trivial|exact ⟨rfl,rfl⟩)|(rcases hd with rfl|rfl|rfl<;>first|trivial|exact ⟨rfl,rfl⟩)|(rcases hd with rfl|rfl|rfl|rfl<;>first|trivial|exact ⟨rfl,rfl⟩)|(rcases hd with rfl|rfl|rfl|rfl|rfl<;>first|trivial|exact ⟨rfl,rfl⟩)|(rcases hd with rfl|rfl|rfl|rfl|rfl|rfl<;>first|trivial|exact ⟨rfl,rfl⟩)|(rcases hd with rfl|rfl|rfl|rfl|rfl|rfl|rfl<;>first|trivial|exact ⟨rfl,rfl⟩)|(rcases hd with rfl|rfl|rfl|rfl|rfl|rfl|rfl|rfl<;>first|trivial|exact ⟨rfl,rfl⟩)|(rcases hd with rfl|rfl|rfl|rfl|rfl|rfl|rfl|rfl|rfl<;>first|trivial|exact ⟨rfl,rfl⟩)))|(intro d hd;simp only [List.mem_map,List.mem_cons,List.not_mem_nil,or_false] at hd;obtain ⟨i,_,rfl⟩:=hd;first|trivial|exact ⟨rfl,rfl⟩)|(intro d hd;simp only [List.mem_append,List.mem_map,List.mem_cons,List.not_mem_nil,or_false] at hd;rcases hd with ⟨i,_,rfl⟩|rfl<;>first|trivial|exact ⟨rfl,rfl⟩)|(intro i hi;rfl)|rfl):DR C ops K (o::rest) ⟨s,h⟩:=DR_q t hg hd ht' e hp k
theorem qxq (t:Nat) (hg:o.guard=none) (hd:o.dst=some t) (ht':Nat.blt t C.n=true) (k:DRq C ops K rest ⟨upd s t d,h⟩) (e:dqF C.T h o.op (ja2 C ⟨s,h⟩ o)=some (p,d):=by exact dsx)
  (hp:p:=by (repeat' (with_reducible apply And.intro))<;>first|(with_reducible exact True.intro)|omega|exact lnx|(intro d hd;simp only [List.mem_cons,List.not_mem_nil,or_false] at hd;(first|(subst hd;first|trivial|exact ⟨rfl,rfl⟩)|(rcases hd with rfl|rfl<;>first|trivial|exact ⟨rfl,rfl⟩)|(rcases hd with rfl|rfl|rfl<;>first|trivial|exact ⟨rfl,rfl⟩)|(rcases hd with rfl|rfl|rfl|rfl<;>first|trivial|exact ⟨rfl,rfl⟩)|(rcases hd with rfl|rfl|rfl|rfl|rfl<;>first|trivial|exact ⟨rfl,rfl⟩)|(rcases hd with rfl|rfl|rfl|rfl|rfl|rfl<;>first|trivial|exact ⟨rfl,rfl⟩)|(rcases hd with rfl|rfl|rfl|rfl|rfl|rfl|rfl<;>first|trivial|exact ⟨rfl,rfl⟩)|(rcases hd with rfl|rfl|rfl|rfl|rfl|rfl|rfl|rfl<;>first|trivial|exact ⟨rfl,rfl⟩)|(rcases hd with rfl|rfl|rfl|rfl|rfl|rfl|rfl|rfl|rfl<;>first|trivial|exact ⟨rfl,rfl⟩)))|(intro d hd;simp only [List.mem_map,List.mem_cons,List.not_mem_nil,or_false] at hd;obtain ⟨i,_,rfl⟩:=hd;first|trivial|exact ⟨rfl,rfl⟩)|(intro d hd;simp only [List.mem_append,List.mem_map,List.mem_cons,List.not_mem_nil,or_false] at hd;rcases hd with ⟨i,_,rfl⟩|rfl<;>first|trivial|exact ⟨rfl,rfl⟩)|(intro i hi;rfl)|rfl):DRq C ops K (o::rest) ⟨s,h⟩:=kx0 t hg hd ht' e hp k
theorem cx {E:Env}{f:FuncId}{g:Operand}{args:Array Operand}{ts:Array TypeId}{xs:List D} (t:Nat) (hE:EnvC E C) (hg:o.guard=none) (hd:o.dst=some t) (ht':Nat.blt t C.n=true)
  (ho:o.op = .call { callee:=.value g,args:=args,argTypes:=ts }) (hf:fnB C.P f=true)
  (k:DR C ops K rest ⟨upd s t d,h⟩) (e:ja2 C ⟨s,h⟩ o = .fn f .nil::xs:=by exact dsa) (hx:xs.all ja4=true:=by rfl) (hc:PC E f xs d):DR C ops K (o::rest) ⟨s,h⟩:=DR_c t hg hd ht' e (js0 hE ho hf hx hc) k
theorem cxq {E:Env}{f:FuncId}{g:Operand}{args:Array Operand}{ts:Array TypeId}{xs:List D} (t:Nat) (hE:EnvC E C) (hg:o.guard=none) (hd:o.dst=some t) (ht':Nat.blt t C.n=true)
  (ho:o.op = .call { callee:=.value g,args:=args,argTypes:=ts }) (hf:fnB C.P f=true)
  (k:DRq C ops K rest ⟨upd s t d,h⟩) (e:ja2 C ⟨s,h⟩ o = .fn f .nil::xs:=by exact dsa) (hx:xs.all ja4=true:=by rfl) (hc:PC E f xs d):DRq C ops K (o::rest) ⟨s,h⟩:=jt6 t hg hd ht' e (js0 hE ho hf hx hc) k
theorem ex {st st' st'':St} (hg:o.guard=none) (hD:DO C o st st') (k:DR C ops K rest st'') (e:st'=st'':=by exact dz1):DR C ops K (o::rest) st:=DR_e hg hD e k
theorem kl1 {live:List Nat}{K:St→Prop}{l:List (Nat×D)} (k:K (mk l h)) (e:pick s live=l:=by exact dz6):KL live K ⟨s,h⟩:=fun l' hl=>by
 have:l'=l:=by rw [← hl];exact e
 rw [this];exact k
theorem gtx {g u:Nat}{want:Bool} (hg:o.guard=some (g,want)) (hu:(ops[g]?).bind (·.dst)=some u) (k:DR C ops K (o'::rest) ⟨s,h⟩) (e:ji0 o=o':=by simp only [ji0];exact rfl) (hs:s u = .v (.bool want):=by exact dsh):DR C ops K (o::rest) ⟨s,h⟩:=by
 subst e
 exact DR_g hg hu hs k
theorem gtxq {g u:Nat}{want:Bool} (hg:o.guard=some (g,want)) (hu:(ops[g]?).bind (·.dst)=some u) (k:DRq C ops K (o'::rest) ⟨s,h⟩) (e:ji0 o=o':=by simp only [ji0];exact rfl) (hs:s u = .v (.bool want):=by exact dsh):DRq C ops K (o::rest) ⟨s,h⟩:=by
 subst e
 exact kw9 hg hu hs k
theorem skx {g u t:Nat}{want:Bool} (hg:o.guard=some (g,want)) (hu:(ops[g]?).bind (·.dst)=some u) (hd:o.dst=some t) (ht':Nat.blt t C.n=true) (k:DR C ops K rest ⟨upd s t unD,h⟩) (hs:s u = .v (.bool (!want)):=by exact dsh):DR C ops K (o::rest) ⟨s,h⟩:=kq6 hg hu hd ht' hs k
theorem skxq {g u t:Nat}{want:Bool} (hg:o.guard=some (g,want)) (hu:(ops[g]?).bind (·.dst)=some u) (hd:o.dst=some t) (ht':Nat.blt t C.n=true) (k:DRq C ops K rest ⟨upd s t unD,h⟩) (hs:s u = .v (.bool (!want)):=by exact dsh):DRq C ops K (o::rest) ⟨s,h⟩:=km0 hg hu hd ht' hs k
theorem ku4 {g u t:Nat}{want:Bool} (hg:o.guard=some (g,want)) (hu:(ops[g]?).bind (·.dst)=some u) (hd:o.dst=some t) (ht':Nat.blt t C.n=true)
  (k:DR C ops K rest ⟨upd s t unD,h⟩) (hs:s u=unD:=by exact dsh):DR C ops K (o::rest) ⟨s,h⟩:=by
 refine .inr ⟨by simp [je5,hg,hu,hs,unD],by simp only [dstB,hd];simpa using ht',?_⟩
 simp only [St.put,hd]
 exact k
theorem kq7 {g u t:Nat}{want:Bool} (hg:o.guard=some (g,want)) (hu:(ops[g]?).bind (·.dst)=some u) (hd:o.dst=some t) (ht':Nat.blt t C.n=true)
  (k:DRq C ops K rest ⟨upd s t unD,h⟩) (hs:s u=unD:=by exact dsh):DRq C ops K (o::rest) ⟨s,h⟩:=by
 refine ⟨unD,by simp only [dstB,hd];simpa using ht',.inr ⟨by simp [je5,hg,hu,hs,unD],rfl⟩,?_⟩
 simp only [St.put,hd]
 exact k
end

abbrev FS (C:Cx) (w:World):Nat→Prop:=fun b=>(C.A b∨C.w0.heap.size≤b)∧b<w.heap.size
def Fin1 (h:List (Option Bk)) (r d:D):Prop:=∀(C:Cx) (w:World) (bs:List (Option Nat)) (x:Value),(∀b,b<C.w0.heap.size→C.S0 b)→WR C h bs w→R1 C w bs x r→RI w (FS C w) x d
theorem jl1 {h:List (Option Bk)}{d:D} (hp:ja4 d=true):Fin1 h d d:=fun _ _ _ _ _ _ hx=>(hx.pure hp).mono fun b hb=>⟨⟨hb.1,hb.2.1⟩,rfl⟩
theorem kd0 {h:List (Option Bk)}{r d:D} (hr:scB r=true) (hd:scB d=true) (k:Fin h r d):Fin1 h r d:=fun C w bs x hS0 hw hx=>(jn8 hd).1 (k C w bs x hS0 hw ((jn8 hr).2 hx))
theorem kd1 {h:List (Option Bk)}{r d:D} (hr:aggB r=true) (hd:aggB d=true) (hn:nc r=nc d) (hc:∀i,i<nc d→Fin1 h (cell r i) (cell d i)):Fin h r d:=fun C w bs x hS0 hw hx=>by
 have key:∃cs:Array Value,x = .agg cs∧cs.size=nc r∧∀i (hi:i<cs.size),R1 C w bs cs[i] (cell r i):=by
  cases r<;>simp only [aggB] at hr<;>try (cases hr;done)
  ·exact hx
  ·obtain ⟨cs,a,b⟩:=hx;exact ⟨cs,a,b,fun i hi=>by omega⟩
  ·exact hx
 obtain ⟨cs,h1,h2,h3⟩:=key
 have h4:∀i (hi:i<cs.size),RI w (FS C w) cs[i] (cell d i):=fun i hi=>hc i (by omega) C w bs _ hS0 hw (h3 i hi)
 cases d<;>simp only [aggB] at hd<;>try (cases hd;done)
 ·exact ⟨cs,h1,h2.trans hn,h4⟩
 ·exact ⟨cs,h1,h2.trans hn⟩
 ·exact ⟨cs,h1,h2.trans hn,h4⟩
inductive FinT (h:List (Option Bk)):D→D→Prop
 | nil:FinT h .nil .nil
 | cons {r d rs ds} (hr:jf6 r=true) (hd:jf6 d=true) (k:Fin h r d) (t:FinT h rs ds):FinT h (.cons r rs) (.cons d ds)
theorem jh9 {h:List (Option Bk)}{rs ds:D} (k:FinT h rs ds):Fin h (.tup rs) (.tup ds):=fun C w bs x hS0 hw hx=>by
 obtain ⟨vs,h1,h2⟩:=hx
 refine ⟨vs,h1,?_⟩
 clear h1
 generalize vs.toList=l at *
 induction k generalizing l with
 | nil=>cases l with|nil=>trivial|cons a b=>exact h2.elim
 | @cons r d rs ds hr hd k t ih =>
  cases l with
  | nil=>exact h2.elim
  | cons a b =>
   obtain ⟨p1,p2⟩:=h2
   have h3:RV C w bs a r:=by cases r<;>first|exact p1|(cases hr;done)
   exact ⟨je0 hd (k C w bs a hS0 hw h3),ih b p2⟩

theorem WR.refz {C:Cx}{h:List (Option Bk)}{bs:List (Option Nat)}{w w':World} (hw:WR C h bs w) {l b:Nat} (hb:bs[l]?=some (some b)) {cs:Array Value}{T:TypeId}{fz fz':Nat×Nat} (hg:w.heap[b]?=some (.cells cs T fz)) (hg':w'.heap[b]?=some (.cells cs T fz')) (hu:jk0 fz' cs.size) (h1z:∀L T' sz,h[l]?=some (some (.row L T' sz))→sz=1)
  (ho:w'.os=w.os∧w'.tape=w.tape∧w'.output=w.output∧w'.heap.size=w.heap.size) (hne:∀b',b'≠b→w'.heap[b']?=w.heap[b']?):WR C h bs w'∧Ext C w bs w' bs:=by
 obtain ⟨o1,o2,o3,o4⟩:=ho
 have hsh:∀b',w'.shape? b'=w.shape? b':=fun b'=>by
  by_cases e:b'=b
  ·subst e;unfold World.shape?;rw [hg,hg']
  ·exact jc4 (hne b' e)
 have hE:Ext C w bs w' bs:=⟨fun b' hb'=>⟨⟨hb'.1,by rw [o4];exact hb'.2.1,hb'.2.2⟩,hne b' fun e=>hb'.2.2 l (by rw [e];exact hb)⟩,fun i b' hi=>⟨hi,hsh b'⟩⟩
 refine ⟨⟨hw.len,hw.inj,fun i b' hi=>⟨by rw [o4];exact (hw.ok i b' hi).1,(hw.ok i b' hi).2⟩,fun i k hk=>?_,?_,hw.gl,hw.g0,hw.tok,hw.mix,hw.s0,fun i b' hi=>⟨(hw.fix i b' hi).1,(hsh b').trans (hw.fix i b' hi).2⟩⟩,hE⟩
 ·rcases hw.blk i k hk with ⟨b',hb',hB⟩|h0
  ·refine .inl ⟨b',hb',?_⟩
   by_cases e:b'=b
   ·subst e
    cases k with
    | one d =>
     obtain ⟨cs',T',fz0,h1,h2,h3,h4⟩:=hB
     rw [hg] at h1
     cases h1
     exact ⟨cs,T,fz',hg',h2,hu,fun i hi=>(h4 i hi).ext hE⟩
    | row L T' sz =>
     obtain ⟨cs',fz0,h1,h2,h3,h4,h5⟩:=hB
     rw [hg] at h1
     cases h1
     have e1:=hw.inj i l _ hb' hb
     subst e1
     exact ⟨cs,fz',hg',h2,⟨hu,fun hne=>absurd (h1z _ _ _ hk) hne⟩,h4,fun i j hi hj=>let ⟨x,hx,hr⟩:=h5 i j hi hj;⟨x,hx,hr.mono hE.im⟩⟩
    | mp es clk =>
     obtain ⟨es',h1,_⟩:=hB
     rw [hg] at h1
     cases h1
    | it =>
     obtain ⟨m,h1,_⟩:=hB
     rw [hg] at h1
     cases h1
    | any=>trivial
   ·exact hB.ext hE (hne b' e)
  ·exact .inr h0
 ·have hf:=hw.fr
  exact ⟨o1.trans hf.os,o2.trans hf.tape,o3.trans hf.output,by rw [o4];exact hf.size,fun b' hb'=>(hne b' fun e=>(hw.ok l b hb).2 (by rw [← e];exact hb')).trans (hf.block b' hb')⟩
theorem kh4 {C:Cx}{o:Oper}{st:St}{t el l n:Nat}{L:List D}{x:Operand} (ho:o.op = .convert t t x) (hd:dstB C o=true) (hT:jl4 C.T t=some el) (hx:evD C st x = .own l n el 1) (hn:0<n) (hl:st.h[l]?=some (some (.row L el 1))):DO C o st (St.put st o.dst (.own l n el 1)):=by
 intro bs a w hr
 have hxv:=jd6 hr x
 rw [hx] at hxv
 unfold jl4 at hT
 split at hT
 ·rename_i hT'
  split at hT
  ·rename_i hE'
   simp only [Option.some.injEq] at hT
   rw [hT] at hT' hE'
   obtain ⟨ti,dt,_,hF,_⟩:=jb2 hr.wr.tok hT'
   obtain ⟨ti2,de,_,hF2,_⟩:=jb2 hr.wr.tok hE'
   have hd1:=hF.desc
   have hd2:=hF2.desc
   cases dt<;>simp only [jc0] at hd1<;>try cases hd1
   simp only [beq_iff_eq] at hd1
   subst hd1
   cases de<;>simp only [jc0] at hd2<;>try cases hd2
   have:=of_decide_eq_true hd2
   subst this
   have hxv0:=hxv
   rcases jh4 hxv with ⟨h1,h2⟩|⟨b,cap,h1,h2,h3,h4,h5⟩
   ·omega
   ·obtain ⟨cs,fz,g1,g2,g3,g4,g5⟩:=hr.wr.at hl h2
    have hblt:b<w.heap.size:=(hr.wr.ok l b h2).1
    have hsh:w.shape? b=some (el,cs.size):=by unfold World.shape?;rw [g1]
    have hrun:(execOp a.eval o).run C.P w = .ok (.value (a.eval x)) (w.freeze ⟨b,cs.size,none⟩ 1):=by
     simp [execOp,ho,convert,Sem.run_bind,hF.underlying w,hF2.underlying w,h1,markStringish,hsh]
    rw [hrun]
    obtain ⟨fz',hfz'⟩:∃fz':Nat×Nat,fz'=(if fz.1==fz.2 then (cs.size,cs.size+1) else (min fz.1 cs.size,max fz.2 (cs.size+1))):=⟨_,rfl⟩
    have hg':(w.freeze ⟨b,cs.size,none⟩ 1).heap[b]?=some (.cells cs el fz'):=by
     unfold World.freeze
     rw [if_neg (by decide)]
     have:w.heap[b]?=some (.cells cs el (fz.1,fz.2)):=g1
     simp only [Array.getElem?_modify,if_true,this,Option.map_some,hfz']
    have hu:jk0 fz' cs.size:=by
     rw [hfz']
     rcases g3.1 with e|e
     ·rw [e];right;simp
     ·right
      split
      ·simp
      ·simp;omega
    obtain ⟨w1,w2⟩:=hr.wr.refz h2 g1 hg' hu (fun L' T' sz' hk'=>by rw [hl] at hk';cases hk';rfl) ⟨by unfold World.freeze;rw [if_neg (by decide)],by unfold World.freeze;rw [if_neg (by decide)],by unfold World.freeze;rw [if_neg (by decide)],by unfold World.freeze;rw [if_neg (by decide)];simp⟩ (fun b' hb'=>by
     unfold World.freeze
     rw [if_neg (by decide)]
     simp only [Array.getElem?_modify]
     rw [if_neg (by omega)])
    exact ⟨bs,Rel.put ⟨hr.defers,hr.size,fun t=>RV.ext w2 (hr.slots t),w1⟩ (jb9 hd) (RV.ext w2 hxv0)⟩
  ·cases hT
 ·cases hT
theorem kv6 {C:Cx}{o:Oper}{st:St}{t el len:Nat}{e:TE}{parts:Array (Nat×Operand)}{b1 b2:Nat}{z1:D}{xs:List D} (ho:o.op = .buildSlice t len parts) (hd:dstB C o=true) (hT:C.T t=some ⟨.slice el,b1,b2,z1⟩) (hE:C.T el=some e) (hi:parts.toList.map (·.1)=List.range len)
  (hpos:0<e.sz:=by decide) (hle:len≤1000000:=by decide) (ha0:ja2 C st o=xs:=by exact dsx) (hx:xs.all (fun d=>ja4 d&&(aggB d||scB d)&&nc d==e.sz)=true:=by rfl) (hl:len*e.sz≤16777216:=by decide):DO C o st (St.put ⟨st.s,st.h++[some (.row xs el e.sz)]⟩ o.dst (.own st.h.length len el e.sz)) :=
 kt9 ho hd hT hE hi hpos hle ha0 hx hl
theorem ki5 {C:Cx}{o:Oper}{st:St}{t el l n:Nat}{L:List D}{x:Operand} (ho:o.op = .convert t t x) (hd:dstB C o=true) (hT:jl4 C.T t=some el) (hx:evD C st x = .own l n el 1:=by exact dsx) (hn:0<n:=by omega) (hl:st.h[l]?=some (some (.row L el 1)):=by exact dsx):DO C o st (St.put st o.dst (.own l n el 1)) :=
 kh4 ho hd hT hx hn hl

theorem js1 {E:Env}{n:Nat}{pins:List Nat}{γ:Type 1}{M:Md E n pins γ}{r:Option Nat}{Q:Exit→γ→St→Prop}{g:γ}{c:Code}{s:Nat→D}{h:List (Option Bk)} (live:List Nat) {l:List (Nat×D)} (k:DX M r c Q g (mk l h)) (e:pick s live=l:=by simp only [pick,kil,asgD,ja5,implies_true,setD,bslF,jc6,jc1,List.zip_cons_cons,List.zip_nil_right,List.zip_nil_left,ja4,rng0,rng1,rng2,rng3,rng4,rng5,rng6,rng7,rng8,List.getD_cons_zero,List.getD_cons_succ,Nat.reduceLeDiff,decide_true,decide_false,List.all_cons,List.all_nil,dqF,nilF,jd8,ja2,Op.operands,Call.operands,evD,cD,gip,upd,look,List.map,List.map_cons,List.map_nil,binF,binI,shI,binS,unF,wD,kLo,kHi,kMod,jd5,jd1,jd2,jc8,jc7,jd0,jc9,lenF,lenD,jc5,jb7,minF,jc3,cutL,bndF,sub,nc,aggT,aggB,scB,tnth,jc2,L_B,L_mk,List.getElem?_cons_zero,List.getElem?_cons_succ,reduceIte,reduceCtorEq,Option.isSome,List.toList_toArray,Nat.reduceAdd,Nat.reduceSub,Nat.reduceMul,Nat.reduceEqDiff,Nat.reduceLT,Nat.reduceBEq,mkF,mkG,Bool.and_true,Bool.true_and,Bool.and_false,Bool.false_and,beq_self_eq_true,mkC,Int.reduceToNat,Int.toNat_natCast,Int.reduceAdd,Int.reduceSub,Int.reduceMul,Nat.zero_add,Nat.add_zero,Nat.mul_one,and_true,true_and,Option.getD_some,Option.getD_none,ne_eq,not_true_eq_false,not_false_eq_true,decide_not,Bool.not_true,Bool.not_false,Int.reduceLT,Int.reduceLE,Int.reduceEq,Int.reduceNe,Int.reduceGT,Int.reduceGE,gt_iff_lt,ge_iff_le,Nat.reduceLT,Nat.reduceLeDiff,u32D,u8D,iD,bD,strD,jb1,jb3,ja7,ja6,ja8,jb0,ja9,jb5,jb4,hX];exact rfl):DX M r c Q g ⟨s,h⟩:=jv7 live e k
theorem jz5 (x:UInt8):jk7 (ja5 x)=x:=by simp [jk7,ja5]
theorem rowB {l:List UInt8}{n:Nat} (h:l.length≤n):((l.map ja5).take n).map jk7=l:=by
 rw [List.take_of_length_le (by simpa using h),List.map_map]
 conv=>rhs;rw [← List.map_id l]
 exact List.map_congr_left fun x _=>jz5 x
def jk2 (T:Nat→Option TE) (s t:Nat):Bool:=match T s,T t with
 | some ⟨.slice el,_,_,_⟩,some ⟨.str,_,_,_⟩=>(match T el with|some ⟨.int .u8,_,_,_⟩=>true|_=>false)
 | _,_=>false
theorem jn6 {C:Cx}{o:Oper}{h:List (Option Bk)}{s t l n el sz:Nat}{x:Operand}{L:List UInt8} (ho:o.op = .convert s t x) (hT:jk2 C.T s t=true) (hl:h[l]?=some (some (.row (L.map ja5) el sz))) (hn:n=L.length):DQ C o [.own l n el sz] h (.v (.string (B L))):=by
 have he:jd1 C.T h s t (.own l n el sz)=some ((n≤(L.map ja5).length)∧∀d ∈ (L.map ja5).take n,isU8 d,.v (.string (B (((L.map ja5).take n).map jk7)))):=by
  unfold jk2 at hT
  split at hT
  ·rename_i hs ht
   split at hT
   ·rename_i he
    simp only [jd1,hs,ht,he,jc2,hl]
   ·cases hT
  ·cases hT
 have:=kc6 ho he ⟨by simp [hn],fun d hd=>by
  obtain ⟨c,_,rfl⟩:=List.mem_map.1 (List.mem_of_mem_take hd)
  trivial⟩
 rwa [rowB (by omega)] at this
section
variable {C:Cx}{ops:Array Oper}{K:St→Prop}{o o':Oper}{rest:List Oper}{s:Nat→D}{h:List (Option Bk)}
theorem cvx {a b l n el sz:Nat}{x:Operand}{L:List UInt8} (t:Nat) (hg:o.guard=none) (hd:o.dst=some t) (ht':Nat.blt t C.n=true) (ho:o.op = .convert a b x) (hT:jk2 C.T a b=true) (k:DR C ops K rest ⟨upd s t (.v (.string (B L))),h⟩)
  (e:ja2 C ⟨s,h⟩ o=[.own l n el sz]:=by exact dsx) (hl:h[l]?=some (some (.row (L.map ja5) el sz)):=by exact rfl) (hn:n=L.length:=by first|omega|exact lnx):DR C ops K (o::rest) ⟨s,h⟩:=DR_c t hg hd ht' e (jn6 ho hT hl hn) k
theorem cvxq {a b l n el sz:Nat}{x:Operand}{L:List UInt8} (t:Nat) (hg:o.guard=none) (hd:o.dst=some t) (ht':Nat.blt t C.n=true) (ho:o.op = .convert a b x) (hT:jk2 C.T a b=true) (k:DRq C ops K rest ⟨upd s t (.v (.string (B L))),h⟩)
  (e:ja2 C ⟨s,h⟩ o=[.own l n el sz]:=by exact dsx) (hl:h[l]?=some (some (.row (L.map ja5) el sz)):=by exact rfl) (hn:n=L.length:=by first|omega|exact lnx):DRq C ops K (o::rest) ⟨s,h⟩:=jt6 t hg hd ht' e (jn6 ho hT hl hn) k
end

theorem Weak.one {C:Cx}{l:List (Nat×D)}{h:List (Option Bk)} (p:Nat) {d d':D} (hp:h[p]?=some (some (.one d))) (hn:nc d'=nc d) (hc:∀(i:Nat) (w:World) (bs:List (Option Nat)) (x:Value),i<nc d→R1 C w bs x (cell d i)→R1 C w bs x (cell d' i)):Weak C (mk l h) (mk l (h.set p (some (.one d')))):=fun bs a w hr=>by
 have hw:=hr.wr
 refine ⟨bs,hr.defers,hr.size,hr.slots,⟨by simp [hw.len,mk],hw.inj,hw.ok,fun i kk hk=>?_,hw.fr,hw.gl,hw.g0,hw.tok,hw.mix,hw.s0,hw.fix⟩⟩
 simp only [mk] at hk
 rw [List.getElem?_set] at hk
 split at hk
 ·rename_i e
  subst e
  split at hk
  ·simp at hk
   subst hk
   rcases hw.blk p _ hp with ⟨b,h1,cs,T,fz,e1,e2,e3,e4⟩|⟨T,sz,h1,_⟩
   ·exact .inl ⟨b,h1,cs,T,fz,e1,by rw [hn];exact e2,e3,fun i hi=>hc i w bs _ (by omega) (e4 i hi)⟩
   ·cases h1
  ·cases hk
 ·exact hw.blk i kk hk

theorem kx5 {C:Cx}{w:World}{bs:List (Option Nat)}{x:Value}{p:Value→Prop} (hh:RV C w bs x (.pr p)):p x∧isC x=true:=by
 have h':R1 C w bs x (.pr p):=hh
 cases h' with
 | im h=>cases h with|pr h k=>exact ⟨k,h⟩
def mkIf (T:Nat):D→Option D
 | .v x=>some (.v (.iface T x))
 | .ip _=>some ifD
 | .ptr ..=>some ifD
 | .pr _=>some ifD
 | _=>none
theorem kc7 {C:Cx}{o:Oper}{h:List (Option Bk)}{T:Nat}{x:Operand}{d r:D} (ho:o.op = .makeInterface T x) (hc:C.P.concrete T=true) (hd:mkIf T d=some r):DQ C o [d] h r:=jd9 fun bs w ρ hw hargs=>by
 rw [ho] at hargs
 obtain ⟨a',h1,h2⟩:=All2.one (a:=x) hargs
 cases h1
 refine ⟨.iface T (ρ x),by simp [execOp,ho,Sem.run_bind,run_makeInterface w T (ρ x) hc],?_⟩
 cases d<;>simp only [mkIf,Option.some.injEq,reduceCtorEq] at hd<;>subst hd
 ·rw [(RV_v h2).1];exact R1.im (.v rfl)
 ·exact R1.im (.pr rfl ⟨_,_,rfl⟩)
 ·exact R1.im (.pr rfl ⟨_,_,rfl⟩)
 ·exact R1.im (.pr rfl ⟨_,_,rfl⟩)
def IfN (d:D) (r:Bool):Prop:=(d = .v .nilIface∧r=true)∨((∃t v,d = .v (.iface t v))∧r=false)∨(d=ifD∧r=false)
theorem kl6 {C:Cx}{o:Oper}{h:List (Option Bk)}{op:BinOp}{t u:Nat}{x:Operand}{d:D}{r:Bool} (ho:o.op = .binOp op t x (.const .nilIface) u) (hu:C.P.underlying t=some (.interface (C.P.methodsAt t))) (hop:op = .eql∨op = .neq) (hd:IfN d r):DQ C o [d,.v .nilIface] h (.v (.bool (if op = .eql then r else !r))):=jd9 fun bs w ρ hw hargs=>by
 rw [ho] at hargs
 obtain ⟨a',b',h1,h2,h3⟩:=All2.two (a:=x) (b:=.const .nilIface) hargs
 cases h1
 have e3:=(RV_v h3).1
 have hv:(ρ x = .nilIface∧r=true)∨((∃t v,ρ x = .iface t v)∧r=false):=by
  rcases hd with ⟨rfl,hr⟩|⟨⟨t',v',rfl⟩,hr⟩|⟨rfl,hr⟩
  ·exact .inl ⟨(RV_v h2).1,hr⟩
  ·exact .inr ⟨⟨_,_,(RV_v h2).1⟩,hr⟩
  ·exact .inr ⟨(kx5 h2).1,hr⟩
 refine ⟨_,?_,R1.im (.v rfl)⟩
 rcases hv with ⟨e1,rfl⟩|⟨⟨t',v',e1⟩,rfl⟩<;>rcases hop with rfl|rfl
 ·simp [execOp,ho,e1,e3,Sem.run_bind,run_eql_nil_nil w t hu,eqGuard]
 ·simp [execOp,ho,e1,e3,Sem.run_bind,run_neq_nil_nil w t hu,eqGuard]
 ·simp [execOp,ho,e1,e3,Sem.run_bind,run_eql_held_nil w t _ _ hu,eqGuard]
 ·simp [execOp,ho,e1,e3,Sem.run_bind,run_neq_held_nil w t _ _ hu,eqGuard]
theorem kl5 {C:Cx}{o:Oper}{h:List (Option Bk)}{op:BinOp}{t u tx:Nat}{x y:Operand}{k:IntKind}{a b:Int} (ho:o.op = .binOp op t x y u) (hu:C.P.underlying t=some (.interface (C.P.methodsAt t))) (hop:op = .eql∨op = .neq)
  (hc:(C.P.info? tx).map (·.comparable)=some true) (hx:C.P.underlying tx=some (.int k)):DQ C o [.v (.iface tx (.int k a)),.v (.iface tx (.int k b))] h (.v (.bool (if op = .eql then a==b else !(a==b)))):=jd9 fun bs w ρ hw hargs=>by
 rw [ho] at hargs
 obtain ⟨a',b',h1,h2,h3⟩:=All2.two (a:=x) (b:=y) hargs
 cases h1
 have e2:=(RV_v h2).1
 have e3:=(RV_v h3).1
 refine ⟨_,?_,R1.im (.v rfl)⟩
 rcases hop with rfl|rfl
 ·simp [execOp,ho,e2,e3,Sem.run_bind,Lib.run_eql_iface_int w a b hu hc hx,eqGuard]
 ·simp [execOp,ho,e2,e3,Sem.run_bind,Lib.run_neq_iface_int w a b hu hc hx,eqGuard]

section
variable {C:Cx}{ops:Array Oper}{K:St→Prop}{o:Oper}{rest:List Oper}{s:Nat→D}{h:List (Option Bk)}{T ty u tx el b1 b2 pt it l n:Nat}{x y:Operand}{d r:D}{b b':Bool}{op:BinOp}{kk:IntKind}{p q:Int}{g:Operand}{args:Array Operand}{ts:Array TypeId}{f:FuncId}{vs:List Value}{v:Value}{e':Array Value→Sem Value}{st:St}{e0:TE}{z1:D}
theorem ky0 (t:Nat) (hg:o.guard=none) (hd:o.dst=some t) (ht':Nat.blt t C.n=true) (ho:o.op = .makeInterface T x) (k:DR C ops K rest ⟨upd s t r,h⟩) (hc:C.P.concrete T=true:=by kernel_rfl)
  (e:ja2 C ⟨s,h⟩ o=[d]:=by exact dsx) (hm:mkIf T d=some r:=by exact rfl):DR C ops K (o::rest) ⟨s,h⟩:=DR_c t hg hd ht' e (kc7 ho hc hm) k
theorem kv9 (t:Nat) (hg:o.guard=none) (hd:o.dst=some t) (ht':Nat.blt t C.n=true) (ho:o.op = .makeInterface T x) (k:DRq C ops K rest ⟨upd s t r,h⟩) (hc:C.P.concrete T=true:=by kernel_rfl)
  (e:ja2 C ⟨s,h⟩ o=[d]:=by exact dsx) (hm:mkIf T d=some r:=by exact rfl):DRq C ops K (o::rest) ⟨s,h⟩:=jt6 t hg hd ht' e (kc7 ho hc hm) k
theorem ifnx (t:Nat) (hg:o.guard=none) (hd:o.dst=some t) (ht':Nat.blt t C.n=true) (ho:o.op = .binOp op ty x (.const .nilIface) u) (k:DR C ops K rest ⟨upd s t (.v (.bool b')),h⟩) (hu:C.P.underlying ty=some (.interface (C.P.methodsAt ty)):=by kernel_rfl) (hop:op = .eql∨op = .neq:=by first|exact .inl rfl|exact .inr rfl)
  (e:ja2 C ⟨s,h⟩ o=[d,.v .nilIface]:=by exact dsx) (hn:IfN d b:=by first|exact .inl ⟨rfl,rfl⟩|exact .inr (.inl ⟨⟨_,_,rfl⟩,rfl⟩)|exact .inr (.inr ⟨rfl,rfl⟩)) (er:(if op = .eql then b else !b)=b':=by exact rfl):DR C ops K (o::rest) ⟨s,h⟩:=by
 subst er
 exact DR_c t hg hd ht' e (kl6 ho hu hop hn) k
theorem ifix (t:Nat) (hg:o.guard=none) (hd:o.dst=some t) (ht':Nat.blt t C.n=true) (ho:o.op = .binOp op ty x y u) (k:DR C ops K rest ⟨upd s t (.v (.bool b')),h⟩)
  (e:ja2 C ⟨s,h⟩ o=[.v (.iface tx (.int kk p)),.v (.iface tx (.int kk q))]:=by exact dsx) (hu:C.P.underlying ty=some (.interface (C.P.methodsAt ty)):=by kernel_rfl) (hop:op = .eql∨op = .neq:=by first|exact .inl rfl|exact .inr rfl) (hc:(C.P.info? tx).map (·.comparable)=some true:=by kernel_rfl) (hx:C.P.underlying tx=some (.int kk):=by kernel_rfl)
  (er:(if op = .eql then p==q else !(p==q))=b':=by exact rfl):DR C ops K (o::rest) ⟨s,h⟩:=by
 subst er
 exact DR_c t hg hd ht' e (kl5 ho hu hop hc hx) k
end
theorem hcs:(∀(p:Prop) [Decidable p],(decide p=true)=p)∧(∀(p:Prop) [Decidable p],(decide p=false) = ¬p)∧(∀b:Bool,((!b)=true)=(b=false))∧(∀b:Bool,((!b)=false)=(b=true))∧(∀a b:Int,(¬a<b)=(b≤a))∧(∀a b:Int,(¬a≤b)=(b<a))∧(∀a b:Int,(a ≥ b)=(b≤a))∧(∀a b:Int,(a>b)=(b<a))∧(∀p:Prop,(¬¬p)=p)∧((!true)=false)∧((!false)=true)∧(∀m n:Nat,((m:Int)=(n:Int))=(m=n))∧(∀m n:Nat,((m:Int)≤(n:Int))=(m≤n))∧(∀m n:Nat,((m:Int)<(n:Int))=(m<n)) :=
 ⟨fun p _=>by simp,fun p _=>by simp,fun b=>by simp,fun b=>by simp,fun a b=>by simp,fun a b=>by simp,fun _ _=>rfl,fun _ _=>rfl,fun p=>propext Classical.not_not,rfl,rfl,fun m n=>propext Int.natCast_inj,fun m n=>propext Int.ofNat_le,fun m n=>propext Int.ofNat_lt⟩
section
variable {C:Cx}{ops:Array Oper}{K:St→Prop}{o:Oper}{rest:List Oper}{st st':St}
theorem exb {st''} (hg:o.guard=none) (hD:DO C o st st') (k:DR C ops K rest st'') (e:st'=st'':=by simp only [St.put,kilH,kilB,kil,List.set,List.length,List.nil_append,List.cons_append,List.append_nil,Option.map,ja5,implies_true,setD,bslF,jc6,jc1,List.zip_cons_cons,List.zip_nil_right,List.zip_nil_left,ja4,rng0,rng1,rng2,rng3,rng4,rng5,rng6,rng7,rng8,List.getD_cons_zero,List.getD_cons_succ,Nat.reduceLeDiff,decide_true,decide_false,List.all_cons,List.all_nil,dqF,nilF,jd8,ja2,Op.operands,Call.operands,evD,cD,gip,upd,look,List.map,List.map_cons,List.map_nil,binF,binI,shI,binS,unF,wD,kLo,kHi,kMod,jd5,jd1,jd2,jc8,jc7,jd0,jc9,lenF,lenD,jc5,jb7,minF,jc3,cutL,bndF,sub,nc,aggT,aggB,scB,tnth,jc2,L_B,L_mk,List.getElem?_cons_zero,List.getElem?_cons_succ,reduceIte,reduceCtorEq,Option.isSome,List.toList_toArray,Nat.reduceAdd,Nat.reduceSub,Nat.reduceMul,Nat.reduceEqDiff,Nat.reduceLT,Nat.reduceBEq,mkF,mkG,Bool.and_true,Bool.true_and,Bool.and_false,Bool.false_and,beq_self_eq_true,mkC,Int.reduceToNat,Int.toNat_natCast,Int.reduceAdd,Int.reduceSub,Int.reduceMul,Nat.zero_add,Nat.add_zero,Nat.mul_one,and_true,true_and,Option.getD_some,Option.getD_none,ne_eq,not_true_eq_false,not_false_eq_true,decide_not,Bool.not_true,Bool.not_false,Int.reduceLT,Int.reduceLE,Int.reduceEq,Int.reduceNe,Int.reduceGT,Int.reduceGE,gt_iff_lt,ge_iff_le,Nat.reduceLT,Nat.reduceLeDiff,u32D,u8D,iD,bD,strD,jb1,jb3,ja7,ja6,ja8,jb0,ja9,jb5,jb4,hX];exact rfl):DR C ops K (o::rest) st:=DR_e hg hD e k
theorem sx (k:DR C ops K rest st') (hs:∀K rest,DR C ops K rest st'→DR C ops K (o::rest) st:=by intro _ _ k';first|exact cvx _ rfl rfl rfl rfl rfl k'|exact qx _ rfl rfl rfl k'|exact ex rfl (jy4 rfl rfl rfl) k'|exact exb rfl (kp8 rfl rfl) k'|exact ex rfl (jo8 rfl rfl) k'|exact ex rfl (kf6 rfl rfl ⟨⟨_,_,_,rfl⟩,rfl,⟨_,rfl,rfl⟩,rfl,by decide⟩ rfl) k'|exact ex rfl (jv5 rfl rfl ⟨⟨_,_,_,rfl⟩,rfl,⟨_,rfl,rfl⟩,rfl,by decide⟩) k'|exact ex rfl (jy6 rfl rfl rfl rfl) k'|exact kq5 _ rfl rfl rfl rfl k'|exact ex rfl (ki5 rfl rfl rfl) k'|exact ky0 _ rfl rfl rfl rfl k'|exact ifnx _ rfl rfl rfl rfl k'|exact ifix _ rfl rfl rfl rfl k'):DR C ops K (o::rest) st:=hs _ _ k
theorem sxq (k:DRq C ops K rest st') (hs:∀K rest,DRq C ops K rest st'→DRq C ops K (o::rest) st:=by intro _ _ k';first|exact cvxq _ rfl rfl rfl rfl rfl k'|exact qxq _ rfl rfl rfl k'|exact kl9 _ rfl rfl rfl rfl k'|exact kv9 _ rfl rfl rfl rfl k'):DRq C ops K (o::rest) st:=hs _ _ k
theorem gx (k:DR C ops K rest st') (hs:∀K,DR C ops K rest st'→DR C ops K (o::rest) st:=by intro _ k';first|exact skx rfl rfl rfl rfl k'|exact ku4 rfl rfl rfl rfl k'):DR C ops K (o::rest) st:=hs _ k
theorem gxq (k:DRq C ops K rest st') (hs:∀K,DRq C ops K rest st'→DRq C ops K (o::rest) st:=by intro _ k';first|exact skxq rfl rfl rfl rfl k'|exact kq7 rfl rfl rfl rfl k'):DRq C ops K (o::rest) st:=hs _ k
end
theorem KL.mono {live:List Nat}{K K':St→Prop} (h:∀st,K st→K' st) {st:St} (k:KL live K st):KL live K' st:=fun l e=>h _ (k l e)
section
variable {E:Env}{n:Nat}{pins:List Nat}{γ:Type 1}{M:Md E n pins γ}{r:Option Nat}{Q:Exit→γ→St→Prop}{g:γ}{id:Nat}{ops:List Oper}{l l':List (Nat×D)}{h h':List (Option Bk)}{cc:Code}{Q':Exit→γ→St→Prop}
theorem rgx (live:List Nat) (k:Q' .normal g (mk l' h')) (hp:pe M r 20 cc Q=(.region id ops.toArray false,Q'):=by rfl) (hd:∀(w0:World) (A S0:Nat→Prop) (f:Nat→Option Nat),DR (mkG E n w0 A S0 (fxP pins f)) ops.toArray (KL live (fun st=>st=mk l' h')) ops ⟨look l,h⟩:=by intro w0 A S0 f0;(repeat ((with_reducible show DR _ _ _ (_::_) _);first|(refine cx _ (envG _ _ _ _ _ _) rfl rfl rfl rfl rfl ?_ (hc:=by first|exact hK.1|exact hK.2.1|exact hK.2.2.1|exact hK.2.2.2.1|exact hK.2.2.2.2.1|exact hK.2.2.2.2.2.1|exact hK.2.2.2.2.2.2.1|exact hK.2.2.2.2.2.2.2.1))|(refine sx ?_)));refine ja0 ?_;refine kl1 ?_;first|exact rfl|(exact dz7)):DX M r cc Q g (mk l h) :=
 jj1 hp (ki0 live fun w0 A S0 f=>jm4 (fun _ h=>h.mono fun _ e=>e ▸ k) (hd w0 A S0 f))
theorem rggx (live:List Nat) (k:Q' .normal g (mk l' h')) (hp:pe M r 20 cc Q=(.region id ops.toArray false,Q'):=by rfl) (hd:∀(w0:World) (A S0:Nat→Prop) (f:Nat→Option Nat),DR (mkG E n w0 A S0 (fxP pins f)) ops.toArray (KL live (fun st=>st=mk l' h')) ops ⟨look l,h⟩:=by intro w0 A S0 f0;(repeat ((with_reducible show DR _ _ _ (_::_) _);first|(refine gtx rfl rfl ?_)|(refine gx ?_)|(refine cx _ (envG _ _ _ _ _ _) rfl rfl rfl rfl rfl ?_ (hc:=by first|exact hK.1|exact hK.2.1|exact hK.2.2.1|exact hK.2.2.2.1|exact hK.2.2.2.2.1|exact hK.2.2.2.2.2.1|exact hK.2.2.2.2.2.2.1|exact hK.2.2.2.2.2.2.2.1))|(refine sx ?_)));refine ja0 ?_;refine kl1 ?_;first|exact rfl|(exact dz7)):DX M r cc Q g (mk l h):=rgx live k hp hd
theorem rqx (live:List Nat) (k:Q' .normal g (mk l' h')) (hp:pe M r 20 cc Q=(.region id ops.toArray true,Q'):=by rfl) (hB:Region.lexB .any ops.toArray=true:=by kernel_rfl) (hd:∀(w0:World) (A S0:Nat→Prop) (f:Nat→Option Nat),DRq (mkG E n w0 A S0 (fxP pins f)) ops.toArray (KL live (fun st=>st=mk l' h')) ops ⟨look l,h⟩:=by intro w0 A S0 f0;(repeat ((with_reducible show DRq _ _ _ (_::_) _);first|(refine cxq _ (envG _ _ _ _ _ _) rfl rfl rfl rfl rfl ?_ (hc:=by first|exact hK.1|exact hK.2.1|exact hK.2.2.1|exact hK.2.2.2.1|exact hK.2.2.2.2.1|exact hK.2.2.2.2.2.1|exact hK.2.2.2.2.2.2.1|exact hK.2.2.2.2.2.2.2.1))|(refine sxq ?_)));refine jm5 ?_;refine kl1 ?_;first|exact rfl|(exact dz7)):DX M r cc Q g (mk l h) :=
 jj1 hp (jq0 live hB fun w0 A S0 f=>jn7 (fun _ h=>h.mono fun _ e=>e ▸ k) (hd w0 A S0 f))
variable {c:Operand}{x y:Code}{b:Bool}{st:St}
theorem ifx (ht:b=true→DX M r x Q' g st) (hf:b=false→DX M r y Q' g st) (hp:pe M r 20 cc Q=(.cond c x y,Q'):=by rfl) (hc:∀(w0:World) (A S0:Nat→Prop) (f:Nat→Option Nat),evD (mkG E n w0 A S0 (fxP pins f)) st c = .v (.bool b):=by intro _ _ _ _;simp only [evD,mk,look,reduceIte,Nat.reduceEqDiff];exact rfl):DX M r cc Q g st:=jj1 hp (jv6 hc ht hf)
theorem iftx (ht:DX M r x Q' g st) (hp:pe M r 20 cc Q=(.cond c x y,Q'):=by rfl) (hc:∀(w0:World) (A S0:Nat→Prop) (f:Nat→Option Nat),evD (mkG E n w0 A S0 (fxP pins f)) st c = .v (.bool b):=by intro _ _ _ _;simp only [evD,mk,look,reduceIte,Nat.reduceEqDiff];exact rfl) (hf:b=false→False:=by intro hc;first|(cases hc;done)|(simp [hX] at hc;done)|(simp only [decide_eq_true_eq,decide_eq_false_iff_not,Bool.not_eq_true',Bool.not_eq_false',Int.not_lt,Int.not_le,ge_iff_le,gt_iff_lt,Classical.not_not,ne_eq,Bool.not_true,Bool.not_false,Int.natCast_inj,Int.ofNat_le,Int.ofNat_lt] at hc;first|omega|contradiction)|exact absurd (by assumption) (@of_decide_eq_false _ _ hc)):DX M r cc Q g st:=jj1 hp (jv6 hc (fun _=>ht) fun h=>(hf h).elim)
theorem iffx (hf:DX M r y Q' g st) (hp:pe M r 20 cc Q=(.cond c x y,Q'):=by rfl) (hc:∀(w0:World) (A S0:Nat→Prop) (f:Nat→Option Nat),evD (mkG E n w0 A S0 (fxP pins f)) st c = .v (.bool b):=by intro _ _ _ _;simp only [evD,mk,look,reduceIte,Nat.reduceEqDiff];exact rfl) (ht:b=true→False:=by intro hc;first|(cases hc;done)|(simp [hX] at hc;done)|(simp only [decide_eq_true_eq,decide_eq_false_iff_not,Bool.not_eq_true',Bool.not_eq_false',Int.not_lt,Int.not_le,ge_iff_le,gt_iff_lt,Classical.not_not,ne_eq,Bool.not_true,Bool.not_false,Int.natCast_inj,Int.ofNat_le,Int.ofNat_lt] at hc;first|omega|contradiction)|exact absurd (@of_decide_eq_true _ _ hc) (by assumption)):DX M r cc Q g st:=jj1 hp (jv6 hc (fun h=>(ht h).elim) fun _=>hf)
theorem iffs (hf:Q' .normal g st) (hp:pe M r 20 cc Q=(.cond c x .skip,Q'):=by rfl) (hc:∀(w0:World) (A S0:Nat→Prop) (f:Nat→Option Nat),evD (mkG E n w0 A S0 (fxP pins f)) st c = .v (.bool b):=by intro _ _ _ _;simp only [evD,mk,look,reduceIte,Nat.reduceEqDiff];exact rfl) (ht:b=true→False:=by intro hc;first|(cases hc;done)|(simp [hX] at hc;done)|(simp only [decide_eq_true_eq,decide_eq_false_iff_not,Bool.not_eq_true',Bool.not_eq_false',Int.not_lt,Int.not_le,ge_iff_le,gt_iff_lt,Classical.not_not,ne_eq,Bool.not_true,Bool.not_false,Int.natCast_inj,Int.ofNat_le,Int.ofNat_lt] at hc;first|omega|contradiction)|exact absurd (@of_decide_eq_true _ _ hc) (by assumption)):DX M r cc Q g st:=iffx (kc9 hf) hp hc ht
theorem retx {rs:List ResultVar}{G:D→Prop}{p:Prop}{d:D} (k:G d) (ho:∀(w0:World) (A S0:Nat→Prop) (f:Nat→Option Nat),outD (mkG E n w0 A S0 (fxP pins f)) st rs=some (p,d):=by intro _ _ _ _;simp only [outD,resD,outV,jd4,List.all,jf6,ja5,implies_true,setD,bslF,jc6,jc1,List.zip_cons_cons,List.zip_nil_right,List.zip_nil_left,ja4,rng0,rng1,rng2,rng3,rng4,rng5,rng6,rng7,rng8,List.getD_cons_zero,List.getD_cons_succ,Nat.reduceLeDiff,decide_true,decide_false,List.all_cons,List.all_nil,dqF,nilF,jd8,ja2,Op.operands,Call.operands,evD,cD,gip,upd,look,List.map,List.map_cons,List.map_nil,binF,binI,shI,binS,unF,wD,kLo,kHi,kMod,jd5,jd1,jd2,jc8,jc7,jd0,jc9,lenF,lenD,jc5,jb7,minF,jc3,cutL,bndF,sub,nc,aggT,aggB,scB,tnth,jc2,L_B,L_mk,List.getElem?_cons_zero,List.getElem?_cons_succ,reduceIte,reduceCtorEq,Option.isSome,List.toList_toArray,Nat.reduceAdd,Nat.reduceSub,Nat.reduceMul,Nat.reduceEqDiff,Nat.reduceLT,Nat.reduceBEq,mkF,mkG,Bool.and_true,Bool.true_and,Bool.and_false,Bool.false_and,beq_self_eq_true,mkC,Int.reduceToNat,Int.toNat_natCast,Int.reduceAdd,Int.reduceSub,Int.reduceMul,Nat.zero_add,Nat.add_zero,Nat.mul_one,and_true,true_and,Option.getD_some,Option.getD_none,ne_eq,not_true_eq_false,not_false_eq_true,decide_not,Bool.not_true,Bool.not_false,Int.reduceLT,Int.reduceLE,Int.reduceEq,Int.reduceNe,Int.reduceGT,Int.reduceGE,gt_iff_lt,ge_iff_le,Nat.reduceLT,Nat.reduceLeDiff,u32D,u8D,iD,bD,strD,jb1,jb3,ja7,ja6,ja8,jb0,ja9,jb5,jb4,jb6,tyT,gtab,hX];exact rfl) (hp:p:=by (repeat' apply And.intro)<;>first|exact True.intro|rfl) :
  ∃p r,(∀(w0:World) (A S0:Nat→Prop) (f:Nat→Option Nat),outD (mkG E n w0 A S0 (fxP pins f)) st rs=some (p,r))∧p∧G r:=⟨p,d,ho,hp,k⟩
theorem retF {rs:List ResultVar}{p:Prop}{d d1:D}{hh:List (Option Bk)} (hp:pe M r 20 cc Q=(.ret,Q'):=by rfl) (hq:Q' .ret g st=(∃p r,(∀(w0:World) (A S0:Nat→Prop) (f:Nat→Option Nat),outD (mkG E n w0 A S0 (fxP pins f)) st rs=some (p,r))∧p∧Fin hh r d1):=by rfl) (ho:∀(w0:World) (A S0:Nat→Prop) (f:Nat→Option Nat),outD (mkG E n w0 A S0 (fxP pins f)) st rs=some (p,d):=by intro _ _ _ _;simp only [outD,resD,outV,jd4,List.all,jf6,ja5,implies_true,setD,bslF,jc6,jc1,List.zip_cons_cons,List.zip_nil_right,List.zip_nil_left,ja4,rng0,rng1,rng2,rng3,rng4,rng5,rng6,rng7,rng8,List.getD_cons_zero,List.getD_cons_succ,Nat.reduceLeDiff,decide_true,decide_false,List.all_cons,List.all_nil,dqF,nilF,jd8,ja2,Op.operands,Call.operands,evD,cD,gip,upd,look,List.map,List.map_cons,List.map_nil,binF,binI,shI,binS,unF,wD,kLo,kHi,kMod,jd5,jd1,jd2,jc8,jc7,jd0,jc9,lenF,lenD,jc5,jb7,minF,jc3,cutL,bndF,sub,nc,aggT,aggB,scB,tnth,jc2,L_B,L_mk,List.getElem?_cons_zero,List.getElem?_cons_succ,reduceIte,reduceCtorEq,Option.isSome,List.toList_toArray,Nat.reduceAdd,Nat.reduceSub,Nat.reduceMul,Nat.reduceEqDiff,Nat.reduceLT,Nat.reduceBEq,mkF,mkG,Bool.and_true,Bool.true_and,Bool.and_false,Bool.false_and,beq_self_eq_true,mkC,Int.reduceToNat,Int.toNat_natCast,Int.reduceAdd,Int.reduceSub,Int.reduceMul,Nat.zero_add,Nat.add_zero,Nat.mul_one,and_true,true_and,Option.getD_some,Option.getD_none,ne_eq,not_true_eq_false,not_false_eq_true,decide_not,Bool.not_true,Bool.not_false,Int.reduceLT,Int.reduceLE,Int.reduceEq,Int.reduceNe,Int.reduceGT,Int.reduceGE,gt_iff_lt,ge_iff_le,Nat.reduceLT,Nat.reduceLeDiff,u32D,u8D,iD,bD,strD,jb1,jb3,ja7,ja6,ja8,jb0,ja9,jb5,jb4,jb6,tyT,gtab,hX];exact rfl) (hpp:p:=by (repeat' apply And.intro)<;>first|exact True.intro|rfl) (hF:Fin hh d d1:=by (try dsimp only [outV,jd4]);exact je8 rfl):DX M r cc Q g st :=
 jj1 hp (ki1 (by rw [hq];exact ⟨p,d,ho,hpp,hF⟩))
end
theorem pcx {E:Env}{f:FuncId}{fn:Func}{c:Code}{n:Nat}{rs:List ResultVar}{args:List D}{l:List (Nat×D)}{d:D} (hf:E.P.funcs[f]?=some fn) (hb:fn.body=some c) (hN:fn.ntmps=n) (hR:fn.results=rs.toArray) (hn:Nat.ble args.length n=true)
  (hbody:∀(w0:World) (A:Nat→Prop),DX (MdFn E n [] w0 A []) none c (ju5 E n [] rs (fun h r=>Fin h r d)) ⟨⟩ (mk l [])) (hl:jd7 0 args=l:=by simp only [jd7,Nat.reduceAdd,u32D,u8D,iD,bD,strD,jb1,jb3,ja7,ja6,ja8,jb0,ja9,jb5,jb4];exact rfl):PC E f args d:=kv0 hf hb hN hR hn hl hbody
def shD:D→D
 | .ptr (l+1) o=>.ptr l o
 | .ptr 0 _=>.dead
 | .own (l+1) n T sz=>.own l n T sz
 | .own 0 _ _ _=>.dead
 | .osl (l+1) o n=>.osl l o n
 | .osl 0 _ _=>.dead
 | .mp (l+1)=>.mp l
 | .mp 0=>.dead
 | .cons a b=>.cons (shD a) (shD b)
 | .tup ps=>.tup (shD ps)
 | .fn f caps=>.fn f (shD caps)
 | d=>d
theorem ju2 (d:D):nc (shD d)=nc d:=by
 induction d with
 | cons a b ih1 ih2=>simp only [shD,nc,ih1,ih2]
 | ptr l o=>cases l<;>rfl
 | own l=>cases l<;>rfl
 | osl l=>cases l<;>rfl
 | mp l=>cases l<;>rfl
 | _=>rfl
theorem jq7 (d:D):∀i,cell (shD d) i=shD (cell d i):=by
 induction d with
 | cons a b ih1 ih2 =>
  intro i
  simp only [shD,cell,ju2]
  split
  ·exact ih1 i
  ·exact ih2 _
 | ptr l o=>intro i;cases l<;>rfl
 | own l=>intro i;cases l<;>rfl
 | osl l=>intro i;cases l<;>rfl
 | mp l=>intro i;cases l<;>rfl
 | _=>intro i;rfl
theorem RI.sh {w:World}{S:Nat→Prop}{x:Value}{d:D} (k:RI w S x d):RI w S x (shD d):=by
 induction k with
 | fn hn _ ih=>exact .fn (by rw [ju2];exact hn) fun i hi=>by rw [jq7];exact ih i hi
 | v h=>exact .v h
 | sl0=>exact .sl0
 | sl sz xs hb hcap hs hx hc _=>exact .sl sz xs hb hcap hs hx hc
 | ip xs hb hx hc _=>exact .ip xs hb hx hc
 | dead h=>exact .dead h
 | pr h k=>exact .pr h k
theorem Sf.sh {C:Cx}{w:World}{bs:List (Option Nat)}{b:Nat} (h:Sf C w bs b):Sf C w bs.tail b:=⟨h.1,h.2.1,fun i=>by rw [List.getElem?_tail];exact h.2.2 (i+1)⟩
theorem R1.sh {C:Cx}{w:World}{bs:List (Option Nat)}{x:Value}{d:D} (k:R1 C w bs x d):R1 C w bs.tail x (shD d):=by
 induction k with
 | im k=>exact .im (k.mono fun b hb=>⟨hb.sh,rfl⟩).sh
 | @ptr l o b hb =>
  cases l with
  | zero=>exact .im (.dead rfl)
  | succ l=>exact .ptr (by rw [List.getElem?_tail];exact hb)
 | @own l n T sz b cap hb hs hn hc =>
  cases l with
  | zero=>exact .im (.dead rfl)
  | succ l=>exact .own (by rw [List.getElem?_tail];exact hb) hs hn hc
 | @own0 l T sz =>
  cases l with
  | zero=>exact .im (.dead rfl)
  | succ l=>exact .own0
 | @osl0 l o a cap =>
  cases l with
  | zero=>exact .im (.dead rfl)
  | succ l=>exact .osl0
 | @osl l o n b cap hb hn =>
  cases l with
  | zero=>exact .im (.dead rfl)
  | succ l=>exact .osl (by rw [List.getElem?_tail];exact hb) hn
 | @mp l b hb =>
  cases l with
  | zero=>exact .im (.dead rfl)
  | succ l=>exact .mp (by rw [List.getElem?_tail];exact hb)
 | fn hn _ ih=>exact .fn (by rw [ju2];exact hn) fun i hi=>by rw [jq7];exact ih i hi
theorem RG0.sh {C:Cx}{w:World}{bs:List (Option Nat)}{x:Value}{d:D} (k:RG0 (R1 C w bs) x d):RG0 (R1 C w bs.tail) x (shD d):=by
 cases d with
 | tup ps=>exact k.elim
 | arr kk n f=>obtain ⟨cs,a,b,c⟩:=k;exact ⟨cs,a,b,fun i hi=>(c i hi).sh⟩
 | nil=>exact k
 | cons a b =>
  obtain ⟨cs,h1,h2,h3⟩:=k
  refine ⟨cs,h1,?_,fun i hi=>?_⟩
  ·show cs.size=nc (shD (.cons a b))
   rw [ju2];exact h2
  ·show R1 C w bs.tail cs[i] (cell (shD (.cons a b)) i)
   rw [jq7];exact (h3 i hi).sh
 | dead=>trivial
 | ptr l o =>
  have:=R1.sh (show R1 C w bs x (.ptr l o) from k)
  cases l<;>first|trivial|exact this
 | own l n T sz =>
  have:=R1.sh (show R1 C w bs x (.own l n T sz) from k)
  cases l<;>first|trivial|exact this
 | osl l o n =>
  have:=R1.sh (show R1 C w bs x (.osl l o n) from k)
  cases l<;>first|trivial|exact this
 | mp l =>
  have:=R1.sh (show R1 C w bs x (.mp l) from k)
  cases l<;>first|trivial|exact this
 | v y=>exact R1.sh (show R1 C w bs x (.v y) from k)
 | sl l z e=>exact R1.sh (show R1 C w bs x (.sl l z e) from k)
 | ip d=>exact R1.sh (show R1 C w bs x (.ip d) from k)
 | pr p=>exact R1.sh (show R1 C w bs x (.pr p) from k)
 | fn f c=>exact R1.sh (show R1 C w bs x (.fn f c) from k)
theorem TG.sh {C:Cx}{w:World}{bs:List (Option Nat)}:∀{vs:List Value}{d:D},TG (R1 C w bs) vs d→TG (R1 C w bs.tail) vs (shD d)
 | [],.nil,_=>trivial
 | _::_,.cons _ _,h=>⟨h.1.sh,TG.sh h.2⟩
 | [],.cons _ _,h=>h.elim
 | [],.v _,h=>h.elim
 | [],.arr ..,h=>h.elim
 | [],.tup _,h=>h.elim
 | [],.sl ..,h=>h.elim
 | [],.ip _,h=>h.elim
 | [],.ptr ..,h=>h.elim
 | [],.own ..,h=>h.elim
 | [],.osl ..,h=>h.elim
 | [],.mp _,h=>h.elim
 | [],.fn ..,h=>h.elim
 | [],.dead,h=>h.elim
 | [],.pr _,h=>h.elim
 | _::_,.nil,h=>h.elim
 | _::_,.v _,h=>h.elim
 | _::_,.arr ..,h=>h.elim
 | _::_,.tup _,h=>h.elim
 | _::_,.sl ..,h=>h.elim
 | _::_,.ip _,h=>h.elim
 | _::_,.ptr ..,h=>h.elim
 | _::_,.own ..,h=>h.elim
 | _::_,.osl ..,h=>h.elim
 | _::_,.mp _,h=>h.elim
 | _::_,.fn ..,h=>h.elim
 | _::_,.dead,h=>h.elim
 | _::_,.pr _,h=>h.elim
theorem RV.sh {C:Cx}{w:World}{bs:List (Option Nat)}{x:Value}{d:D} (k:RV C w bs x d):RV C w bs.tail x (shD d):=by
 cases d with
 | tup ps=>obtain ⟨vs,a,b⟩:=k;exact ⟨vs,a,b.sh⟩
 | ptr l o =>
  have:=RG0.sh (je0 (by rfl) k)
  cases l<;>exact this
 | own l n T sz =>
  have:=RG0.sh (je0 (by rfl) k)
  cases l<;>exact this
 | osl l o n =>
  have:=RG0.sh (je0 (by rfl) k)
  cases l<;>exact this
 | mp l =>
  have:=RG0.sh (je0 (by rfl) k)
  cases l<;>exact this
 | _=>exact RG0.sh (je0 (by rfl) k)
def shB:Bk→Bk
 | .one d=>.one (shD d)
 | .row L T sz=>.row L T sz
 | .mp es clk=>.mp (es.map fun p=>(p.1,p.2.1,shD p.2.2)) clk
 | .it (l+1) since seen last=>.it l since seen last
 | .it 0 _ _ _=>.any
 | .any=>.any
theorem ke3:∀(l:List (Nat×D)) (t:Nat),look (l.map fun p=>(p.1,shD p.2)) t=shD (look l t)
 | [],_=>rfl
 | (k,d)::l,t=>by
  simp only [List.map_cons,look]
  split
  ·rfl
  ·exact ke3 l t
theorem Weak.shift {C:Cx}{l l':List (Nat×D)}{h h':List (Option Bk)} (hfx:∀i,C.fx i=none) (el:l.map (fun p=>(p.1,shD p.2))=l') (eh:h.tail.map (Option.map shB)=h'):Weak C (mk l h) (mk l' h'):=fun bs a w hr=>by
 subst el eh
 have hw:=hr.wr
 refine ⟨bs.tail,hr.defers,hr.size,fun t=>?_,⟨by simp [hw.len,mk],fun i j b hi hj=>?_,fun i b hi=>?_,fun i kk hk=>?_,hw.fr,hw.gl,hw.g0,hw.tok,hw.mix,hw.s0,fun i b hi=>?_⟩⟩
 ·show RV C w bs.tail _ (look (l.map fun p=>(p.1,shD p.2)) t)
  rw [ke3]
  exact (hr.slots t).sh
 ·rw [List.getElem?_tail] at hi hj
  have:=hw.inj _ _ b hi hj
  omega
 ·rw [List.getElem?_tail] at hi
  exact hw.ok _ b hi
 ·simp only [mk,List.getElem?_map,List.getElem?_tail,Option.map_eq_some_iff] at hk
  obtain ⟨k0,hk0,hk1⟩:=hk
  cases k0 with
  | none=>simp at hk1
  | some k1 =>
   simp only [Option.some.injEq] at hk1
   obtain ⟨_,rfl,rfl⟩:=hk1
   rcases hw.blk _ k1 hk0 with ⟨b,h1,h2⟩|⟨T,sz,h1,h2⟩
   ·refine .inl ⟨b,by rw [List.getElem?_tail];exact h1,?_⟩
    cases k1 with
    | one d =>
     obtain ⟨cs,T,fz,e1,e2,e3,e4⟩:=h2
     exact ⟨cs,T,fz,e1,by rw [ju2];exact e2,e3,fun i hi=>by rw [jq7];exact (e4 i hi).sh⟩
    | row L T sz =>
     obtain ⟨cs,fz,e1,e2,e3,e4,e5⟩:=h2
     exact ⟨cs,fz,e1,e2,e3,e4,fun i j hi hj=>let ⟨x,hx,hr⟩:=e5 i j hi hj;⟨x,hx,hr.mono fun b hb=>⟨hb.sh,rfl⟩⟩⟩
    | mp es clk =>
     obtain ⟨es',e1,e2⟩:=h2
     exact ⟨es',e1,e2.mapR fun _ _ k=>⟨k.1,k.2.1,k.2.2.sh⟩⟩
    | it l since seen last =>
     obtain ⟨m,e1,e2⟩:=h2
     cases l with
     | zero=>trivial
     | succ l=>exact ⟨m,e1,by rw [List.getElem?_tail];exact e2⟩
    | any=>trivial
   ·subst h1
    exact .inr ⟨T,sz,rfl,by rw [List.getElem?_tail];exact h2⟩
 ·rw [hfx i] at hi;cases hi
theorem WeakX.shift {E:Env}{n:Nat}{l l':List (Nat×D)}{h h':List (Option Bk)} (el:l.map (fun p=>(p.1,shD p.2))=l') (eh:h.tail.map (Option.map shB)=h'):WeakX E n [] (mk l h) (mk l' h'):=fun _ _ _ _=>Weak.shift (fun i=>by simp [mkG,fxP]) el eh
theorem WeakX.take {E:Env}{n:Nat}{l:List (Nat×D)}{h h':List (Option Bk)} (k:Nat) (hs:l.all (fun p=>ltB k p.2)=true) (hb:(h.take k).all (ltBk k)=true) (eh:h.take k=h'):WeakX E n [] (mk l h) (mk l h'):=fun _ _ _ _=>eh ▸ Weak.take k (fun i b hi=>by simp [mkG,fxP] at hi) hs hb
theorem kr1 {h:List (Option Bk)}{α:Type}{z:α}{e:α→D}:Fin h (.v (.slice none 0 0)) (.sl [] z e):=fun C w bs x _ _ hx=>by
 have:=(RV_v hx).1
 subst this
 exact (RI.sl0:RI w _ (.slice none 0 0) (.sl [] z e))
def suD (k:Nat):D→D
 | .ptr l o=>.ptr (k+l) o
 | .own l n T sz=>.own (k+l) n T sz
 | .osl l o n=>.osl (k+l) o n
 | .mp l=>.mp (k+l)
 | .cons a b=>.cons (suD k a) (suD k b)
 | .tup ps=>.tup (suD k ps)
 | .fn f caps=>.fn f (suD k caps)
 | d=>d
def suB (k:Nat):Bk→Bk
 | .one d=>.one (suD k d)
 | .row L T sz=>.row L T sz
 | .mp es clk=>.mp (es.map fun p=>(p.1,p.2.1,suD k p.2.2)) clk
 | .it l since seen last=>.it (k+l) since seen last
 | .any=>.any
theorem ju3 (k:Nat) (d:D):nc (suD k d)=nc d:=by
 induction d with
 | cons a b ih1 ih2=>simp only [suD,nc,ih1,ih2]
 | _=>rfl
theorem jq8 (k:Nat) (d:D):∀i,cell (suD k d) i=suD k (cell d i):=by
 induction d with
 | cons a b ih1 ih2 =>
  intro i
  simp only [suD,cell,ju3]
  split
  ·exact ih1 i
  ·exact ih2 _
 | _=>intro i;rfl
theorem RI.su {w:World}{S:Nat→Prop} (k:Nat) {x:Value}{d:D} (h:RI w S x d):RI w S x (suD k d):=by
 induction h with
 | fn hn _ ih=>exact .fn (by rw [ju3];exact hn) fun i hi=>by rw [jq8];exact ih i hi
 | v h=>exact .v h
 | sl0=>exact .sl0
 | sl sz xs hb hcap hs hx hc _=>exact .sl sz xs hb hcap hs hx hc
 | ip xs hb hx hc _=>exact .ip xs hb hx hc
 | dead h=>exact .dead h
 | pr h k=>exact .pr h k
section
variable {C C':Cx}{w:World}{bs bs':List (Option Nat)} (hS:∀b,Sf C' w bs' b→Sf C w (bs++bs') b)
include hS
theorem R1.su {x:Value}{d:D} (h:R1 C' w bs' x d):R1 C w (bs++bs') x (suD bs.length d):=by
 have hl:∀(l b:Nat),bs'[l]?=some (some b)→(bs++bs')[bs.length+l]?=some (some b):=fun l b hb=>by rw [List.getElem?_append_right (by omega),Nat.add_sub_cancel_left];exact hb
 induction h with
 | im h=>exact .im ((h.mono fun b hb=>⟨hS b hb,rfl⟩).su _)
 | ptr h=>exact .ptr (hl _ _ h)
 | own h hs hn hc=>exact .own (hl _ _ h) hs hn hc
 | own0=>exact .own0
 | osl0=>exact .osl0
 | osl h hn=>exact .osl (hl _ _ h) hn
 | mp h=>exact .mp (hl _ _ h)
 | fn hn _ ih=>exact .fn (by rw [ju3];exact hn) fun i hi=>by rw [jq8];exact ih i hi
theorem RG0.su {x:Value}{d:D} (h:RG0 (R1 C' w bs') x d):RG0 (R1 C w (bs++bs')) x (suD bs.length d):=by
 cases d with
 | arr k n f=>obtain ⟨cs,a,b,c⟩:=h;exact ⟨cs,a,b,fun i hi=>(c i hi).su hS⟩
 | cons p q =>
  obtain ⟨cs,a,b,c⟩:=h
  refine ⟨cs,a,?_,fun i hi=>?_⟩
  ·show cs.size=nc (suD bs.length (.cons p q))
   rw [ju3];exact b
  ·show R1 C w (bs++bs') cs[i] (cell (suD bs.length (.cons p q)) i)
   rw [jq8];exact (c i hi).su hS
 | nil=>exact h
 | tup ps=>exact h.elim
 | dead=>trivial
 | _=>exact R1.su hS h
theorem TG.su:∀{vs:List Value}{d:D},TG (R1 C' w bs') vs d→TG (R1 C w (bs++bs')) vs (suD bs.length d)
 | [],.nil,_=>trivial
 | _::_,.cons _ _,h=>⟨h.1.su hS,TG.su h.2⟩
 | [],.cons _ _,h=>h.elim
 | [],.v _,h=>h.elim
 | [],.arr ..,h=>h.elim
 | [],.tup _,h=>h.elim
 | [],.sl ..,h=>h.elim
 | [],.ip _,h=>h.elim
 | [],.ptr ..,h=>h.elim
 | [],.own ..,h=>h.elim
 | [],.osl ..,h=>h.elim
 | [],.mp _,h=>h.elim
 | [],.fn ..,h=>h.elim
 | [],.dead,h=>h.elim
 | [],.pr _,h=>h.elim
 | _::_,.nil,h=>h.elim
 | _::_,.v _,h=>h.elim
 | _::_,.arr ..,h=>h.elim
 | _::_,.tup _,h=>h.elim
 | _::_,.sl ..,h=>h.elim
 | _::_,.ip _,h=>h.elim
 | _::_,.ptr ..,h=>h.elim
 | _::_,.own ..,h=>h.elim
 | _::_,.osl ..,h=>h.elim
 | _::_,.mp _,h=>h.elim
 | _::_,.fn ..,h=>h.elim
 | _::_,.dead,h=>h.elim
 | _::_,.pr _,h=>h.elim
theorem RV.su {x:Value}{d:D} (h:RV C' w bs' x d):RV C w (bs++bs') x (suD bs.length d):=by
 cases d with
 | tup ps=>obtain ⟨vs,a,b⟩:=h;exact ⟨vs,a,b.su hS⟩
 | _=>exact RG0.su hS (je0 (by rfl) h)
end
theorem jy5 {E:Env}{C:Cx} (hE:EnvC E C) {o:Oper}{st:St}{f:FuncId}{g:Operand}{args:Array Operand}{ts:Array TypeId}{r:D}{H':List (Option Bk)}{xs:List D} (ho:o.op = .call { callee:=.value g,args:=args,argTypes:=ts }) (hd:dstB C o=true) (hf:fnB C.P f=true)
  (hx:ja2 C st o = .fn f .nil::xs) (hp:xs.all ja4=true) (hc:PH E f xs [] r H'):DO C o st (St.put ⟨st.s,st.h++H'.map (Option.map (suB st.h.length))⟩ o.dst (suD st.h.length r)):=by
 intro bs a w hr
 have ha:=All2.map (R:=RV C w bs) (f:=a.eval) (g:=evD C st) o.op.operands.toList (fun x _=>jd6 hr x)
 have hargs:o.op.operands.toList.map (evD C st) = .fn f .nil::xs:=hx
 rw [hargs] at ha
 obtain ⟨vs,hrun,hv⟩:=jf0 (C:=C) (cs:=[]) (by simp) hf ho ha
 rw [List.append_nil] at hv
 have hw:=hr.wr
 have hG:=jk5 hE hw
 have hg:∀b,b<E.gN→Sf C w bs b:=by rw [hE.gN];exact Sf_g hw
 have hcall:=hc 0 w (Sf C w bs) [] vs (fun b hb=>⟨hb.2.1,by simp⟩)
  ⟨rfl,by simp,by simp,by simp,⟨rfl,rfl,rfl,Nat.le_refl _,fun _ _=>rfl⟩,fun b hb=>⟨⟨(hg b hb).2.1,by simp⟩,hg b hb⟩,hG.gl,hG.tok,hG.mix,fun b hb=>hb.1,fun i b hi=>by simp [mkG,fxP] at hi⟩
  (All2.imp (K:=fun d e=>d=e∧ja4 d=true) (fun a b c h1 h2=>by
   obtain ⟨rfl,h3⟩:=h2
   exact RG.imp h3 (fun _ _ hp' h=>.im ((h.pure hp').mono fun b hb=>⟨⟨.inl hb,hb.2.1,by simp⟩,rfl⟩)) h1) hv (All2.reflP fun x hx'=>⟨rfl,List.all_eq_true.1 hp x hx'⟩))
 rw [hE.P] at hcall
 rw [hrun]
 refine hcall.mono fun e w' ⟨x,bs',he,h2,hxr⟩=>⟨x,he,bs++bs',?_⟩
 have hfr:=h2.fr
 have hsz:w.heap.size≤w'.heap.size:=hfr.size
 have hbk:∀b,b<w.heap.size→w'.heap[b]?=w.heap[b]?:=fun b hb=>hfr.block b ⟨hb,by simp⟩
 have hnew:∀(i b:Nat),bs'[i]?=some (some b)→w.heap.size≤b∧b<w'.heap.size:=fun i b hi=>⟨Nat.le_of_not_lt fun hlt=>(h2.ok i b hi).2 ⟨hlt,by simp⟩,(h2.ok i b hi).1⟩
 have hlen:bs.length=st.h.length:=hw.len
 have hat:∀(i b:Nat),(bs++bs')[i]?=some (some b)→(i<bs.length∧bs[i]?=some (some b))∨(bs.length≤i∧bs'[i-bs.length]?=some (some b)):=fun i b hi=>by
  by_cases h:i<bs.length
  ·rw [List.getElem?_append_left h] at hi;exact .inl ⟨h,hi⟩
  ·rw [List.getElem?_append_right (by omega)] at hi;exact .inr ⟨by omega,hi⟩
 have hE2:Ext C w bs w' (bs++bs'):=by
  refine ⟨fun k hk=>⟨⟨hk.1,Nat.lt_of_lt_of_le hk.2.1 hsz,fun i hi=>?_⟩,hbk k hk.2.1⟩,fun i k hk=>⟨?_,jc4 (hbk k (hw.ok i k hk).1)⟩⟩
  ·rcases hat i k hi with ⟨_,h⟩|⟨_,h⟩
   ·exact hk.2.2 i h
   ·have:=(hnew _ _ h).1;have:=hk.2.1;omega
  ·have hi:i<bs.length:=(List.getElem?_eq_some_iff.1 hk).1
   rw [List.getElem?_append_left hi];exact hk
 have hS:∀b,Sf (hctx E 0 [] w (Sf C w bs) []) w' bs' b→Sf C w' (bs++bs') b:=fun b hb=>by
  obtain ⟨q1,q2,q3⟩:=hb
  have q1':Sf C w bs b∨w.heap.size≤b:=q1
  refine ⟨?_,q2,fun i hi=>?_⟩
  ·rcases q1' with h|h
   ·exact h.1
   ·exact .inr (Nat.le_trans hw.fr.size h)
  ·rcases hat i b hi with ⟨_,h⟩|⟨_,h⟩
   ·rcases q1' with h'|h'
    ·exact h'.2.2 i h
    ·have:=(hw.ok i b h).1;omega
   ·exact q3 _ h
 have hwr:WR C (st.h++H'.map (Option.map (suB st.h.length))) (bs++bs') w':=by
  refine ⟨by simp [hlen,h2.len],fun i j b hi hj=>?_,fun i b hi=>?_,fun i kk hk=>?_,?_,hw.gl,hw.g0,hw.tok,hw.mix,hw.s0,fun i b hi=>?_⟩
  ·rcases hat i b hi with ⟨h1,h3⟩|⟨h1,h3⟩<;>rcases hat j b hj with ⟨h4,h5⟩|⟨h4,h5⟩
   ·exact hw.inj i j b h3 h5
   ·have:=(hw.ok i b h3).1;have:=(hnew _ _ h5).1;omega
   ·have:=(hw.ok j b h5).1;have:=(hnew _ _ h3).1;omega
   ·have:=h2.inj _ _ b h3 h5;omega
  ·rcases hat i b hi with ⟨h1,h3⟩|⟨h1,h3⟩
   ·exact ⟨Nat.lt_of_lt_of_le (hw.ok i b h3).1 hsz,(hw.ok i b h3).2⟩
   ·refine ⟨(hnew _ _ h3).2,fun hs=>?_⟩
    have:=hw.s0 b hs
    have:=hw.fr.size
    have:=(hnew _ _ h3).1
    omega
  ·by_cases hi:i<st.h.length
   ·rw [List.getElem?_append_left hi] at hk
    rcases hw.blk i kk hk with ⟨b,hb,hB⟩|⟨T,sz,h0,h3⟩
    ·exact .inl ⟨b,(hE2.ow i b hb).1,hB.ext hE2 (hbk b (hw.ok i b hb).1)⟩
    ·exact .inr ⟨T,sz,h0,by rw [List.getElem?_append_left (by omega)];exact h3⟩
   ·rw [List.getElem?_append_right (by omega),List.getElem?_map,Option.map_eq_some_iff] at hk
    obtain ⟨k0,hk0,hk1⟩:=hk
    cases k0 with
    | none=>simp at hk1
    | some k1 =>
     simp only [Option.map_some,Option.some.injEq] at hk1
     subst hk1
     rw [← hlen] at hk0 ⊢
     rcases h2.blk _ k1 hk0 with ⟨b,hb,hB⟩|⟨T,sz,h0,h3⟩
     ·refine .inl ⟨b,by rw [List.getElem?_append_right (by omega)];exact hb,?_⟩
      cases k1 with
      | one d =>
       obtain ⟨cs,T,fz,e1,e2,e3,e4⟩:=hB
       exact ⟨cs,T,fz,e1,by rw [ju3];exact e2,e3,fun i hi=>by rw [jq8];exact (e4 i hi).su hS⟩
      | row L T sz =>
       obtain ⟨cs,fz,e1,e2,e3,e4,e5⟩:=hB
       exact ⟨cs,fz,e1,e2,e3,e4,fun i j hi hj=>let ⟨x,hx,hr⟩:=e5 i j hi hj;⟨x,hx,hr.mono fun b hb=>⟨hS b hb,rfl⟩⟩⟩
      | mp es clk =>
       obtain ⟨es',e1,e2⟩:=hB
       exact ⟨es',e1,e2.mapR fun _ _ k=>⟨k.1,k.2.1,k.2.2.su hS⟩⟩
      | it l since seen last =>
       obtain ⟨m,e1,e2⟩:=hB
       exact ⟨m,e1,by rw [List.getElem?_append_right (by omega),Nat.add_sub_cancel_left];exact e2⟩
      | any=>trivial
     ·subst h0
      exact .inr ⟨T,sz,rfl,by rw [List.getElem?_append_right (by omega)];exact h3⟩
  ·have hf0:=hw.fr
   exact ⟨hfr.os.trans hf0.os,hfr.tape.trans hf0.tape,hfr.output.trans hf0.output,Nat.le_trans hf0.size hsz,fun k hk=>(hbk k (by have:=hw.s0 k hk;have:=hf0.size;omega)).trans (hf0.block k hk)⟩
  ·obtain ⟨f1,f2⟩:=hw.fix i b hi
   exact ⟨(hE2.ow i b f1).1,(hE2.ow i b f1).2.trans f2⟩
 have:=hxr.su hS
 rw [hlen] at this
 exact Rel.put (st:=⟨st.s,st.h++H'.map (Option.map (suB st.h.length))⟩) ⟨hr.defers,hr.size,fun t=>RV.ext hE2 (hr.slots t),hwr⟩ (jb9 hd) this
theorem kr6 {E:Env}{C:Cx} (hE:EnvC E C) {o:Oper}{st:St}{f:FuncId}{g:Operand}{args:Array Operand}{ts:Array TypeId}{r r':D}{H' H2:List (Option Bk)}{xs:List D} (ho:o.op = .call { callee:=.value g,args:=args,argTypes:=ts }) (hd:dstB C o=true) (hf:fnB C.P f=true)
  (hx:ja2 C st o = .fn f .nil::xs:=by exact dsa) (hp:xs.all ja4=true:=by rfl) (hc:PH E f xs [] r H')
  (e1:H'.map (Option.map (suB st.h.length))=H2:=by simp only [suD,suB,List.map_cons,List.map_nil,Option.map,List.length_cons,List.length_nil,Nat.reduceAdd,Nat.add_zero,hX];exact rfl)
  (e2:suD st.h.length r=r':=by simp only [suD,List.length_cons,List.length_nil,Nat.reduceAdd,Nat.add_zero,hX];exact rfl):DO C o st (St.put ⟨st.s,st.h++H2⟩ o.dst r'):=by
 subst e1 e2
 exact jy5 hE ho hd hf hx hp hc
def frzR (p:Nat) {α:Type} (xs:List α) (z:α) (f:α→D):D→D
 | .own l n T sz=>if l=p then (if n≤xs.length then .sl (xs.take n) z f else .dead) else .own l n T sz
 | .ptr l o=>if l=p then .dead else .ptr l o
 | .osl l o n=>if l=p then .dead else .osl l o n
 | .mp l=>if l=p then .dead else .mp l
 | .cons a b=>.cons (frzR p xs z f a) (frzR p xs z f b)
 | .tup ps=>.tup (frzR p xs z f ps)
 | .fn g caps=>.fn g (frzR p xs z f caps)
 | d=>d
def frzK (p:Nat) {α:Type} (xs:List α) (z:α) (f:α→D):Bk→Bk
 | .one d=>.one (frzR p xs z f d)
 | .row L T sz=>.row L T sz
 | .mp es clk=>.mp (es.map fun q=>(q.1,q.2.1,frzR p xs z f q.2.2)) clk
 | .it l since seen last=>if l=p then .any else .it l since seen last
 | .any=>.any
section
variable {p:Nat}{α:Type}{xs:List α}{z:α}{f:α→D}
theorem jn0 (d:D):nc (frzR p xs z f d)=nc d:=by
 induction d with
 | cons a b ih1 ih2=>simp only [frzR,nc,ih1,ih2]
 | own l n T sz=>simp only [frzR];split<;>(try split)<;>rfl
 | ptr l o=>simp only [frzR];split<;>rfl
 | osl l o n=>simp only [frzR];split<;>rfl
 | mp l=>simp only [frzR];split<;>rfl
 | _=>rfl
theorem jl3 (d:D):∀i,cell (frzR p xs z f d) i=frzR p xs z f (cell d i):=by
 induction d with
 | cons a b ih1 ih2 =>
  intro i
  simp only [frzR,cell,jn0]
  split
  ·exact ih1 i
  ·exact ih2 _
 | own l n T sz=>intro i;simp only [frzR,cell];split<;>(try split)<;>rfl
 | ptr l o=>intro i;simp only [frzR,cell];split<;>rfl
 | osl l o n=>intro i;simp only [frzR,cell];split<;>rfl
 | mp l=>intro i;simp only [frzR,cell];split<;>rfl
 | _=>intro i;rfl
theorem RI.frzR {w:World}{S:Nat→Prop}{x:Value}{d:D} (k:RI w S x d):RI w S x (Proofs.Ytfgjinfmlmcpiaa.frzR p xs z f d):=by
 induction k with
 | fn hn _ ih=>exact .fn (by rw [jn0];exact hn) fun i hi=>by rw [jl3];exact ih i hi
 | v h=>exact .v h
 | sl0=>exact .sl0
 | sl sz xs hb hcap hs hx hc _=>exact .sl sz xs hb hcap hs hx hc
 | ip xs hb hx hc _=>exact .ip xs hb hx hc
 | dead h=>exact .dead h
 | pr h k=>exact .pr h k
variable {E:Env}{n:Nat}{w1:World}{A1 S1:Nat→Prop}{fx:Nat→Option Nat}{h:List (Option Bk)}{bs:List (Option Nat)}{W:World}{T sz:Nat}
abbrev A2 (A1:Nat→Prop) (bs:List (Option Nat)) (p:Nat):Nat→Prop:=fun x=>A1 x∨bs[p]?=some (some x)
theorem jk9 {i b:Nat} (h:(bs.set p none)[i]?=some (some b)):i≠p∧bs[i]?=some (some b):=by
 rw [List.getElem?_set] at h
 split at h
 ·split at h<;>cases h
 ·rename_i h0;exact ⟨fun e=>h0 e.symm,h⟩
theorem ji8 {i b:Nat} (hi:i≠p) (h:bs[i]?=some (some b)):(bs.set p none)[i]?=some (some b):=by
 rw [List.getElem?_set,if_neg (fun e=>hi e.symm)];exact h
theorem Sf.frzR {b:Nat} (h:Sf (mkG E n w1 A1 S1 fx) W bs b):Sf (mkG E n w1 (A2 A1 bs p) S1 fx) W (bs.set p none) b :=
 ⟨h.1.imp (fun h=>.inl h) id,h.2.1,fun i hi=>h.2.2 i (jk9 hi).2⟩
theorem R1.frzR (hw:WR (mkG E n w1 A1 S1 fx) h bs W) (hp:h[p]?=some (some (.row (xs.map f) T sz))) {x:Value}{d:D} (k:R1 (mkG E n w1 A1 S1 fx) W bs x d):R1 (mkG E n w1 (A2 A1 bs p) S1 fx) W (bs.set p none) x (Proofs.Ytfgjinfmlmcpiaa.frzR p xs z f d):=by
 induction k with
 | im k=>exact .im (k.mono fun b hb=>⟨hb.frzR,rfl⟩).frzR
 | @ptr l o b hb =>
  simp only [Proofs.Ytfgjinfmlmcpiaa.frzR]
  split
  ·exact .im (.dead rfl)
  ·rename_i h0;exact .ptr (ji8 h0 hb)
 | @own l m T' sz' b cap hb hs hn hc =>
  simp only [Proofs.Ytfgjinfmlmcpiaa.frzR]
  split
  ·rename_i h0
   subst h0
   split
   ·rename_i hm
    rcases hw.blk l _ hp with ⟨b',hb',cs,fz,e1,e2,e3,e4,e5⟩|⟨_,_,_,h0⟩
    ·rw [hb] at hb'
     cases hb'
     have hlen:(xs.take m).length=m:=by rw [List.length_take];omega
     have hat:∀i,i<m→∃hi:i<(xs.map f).length,f ((xs.take m).getD i z)=(xs.map f)[i]:=fun i hi=>by
      have h1:i<xs.length:=by omega
      refine ⟨by simpa using h1,?_⟩
      simp [List.getD_eq_getElem?_getD,List.getElem?_take,hi,h1]
     have key:RI W (Sf (mkG E n w1 (A2 A1 bs l) S1 fx) W (bs.set l none)) (.slice (some ⟨b,0,none⟩) (xs.take m).length cap) (.sl (xs.take m) z f):=by
      refine .sl sz (fun i j=>cs.getD (i*sz+j) undef) ⟨.inl (.inr hb),(hw.ok l b hb).1,fun i hi=>?_⟩ (by rw [hlen];exact hn) (fun i hi=>?_) (fun i j hi hj=>?_) (fun i j hi hj=>?_)
      ·obtain ⟨h1,h2⟩:=jk9 hi
       exact h1 (hw.inj i l b h2 hb)
      ·obtain ⟨h1,h2⟩:=hat i (by omega)
       rw [h2];exact e4 _ (List.getElem_mem h1)
      ·obtain ⟨h1,h2⟩:=hat i (by omega)
       obtain ⟨x,hx,_⟩:=e5 i j h1 hj
       rw [Nat.zero_add]
       unfold World.cell?
       rw [e1]
       simp [Array.getD_eq_getD_getElem?,hx]
      ·obtain ⟨h1,h2⟩:=hat i (by omega)
       obtain ⟨x,hx,hr⟩:=e5 i j h1 hj
       rw [h2]
       simp only [Array.getD_eq_getD_getElem?,hx,Option.getD_some]
       exact hr.mono fun b hb=>⟨hb.frzR,rfl⟩
     rw [hlen] at key
     exact .im key
    ·rw [hb] at h0;cases h0
   ·exact .im (.dead rfl)
  ·rename_i h0;exact .own (ji8 h0 hb) hs hn hc
 | @own0 l T' sz' =>
  simp only [Proofs.Ytfgjinfmlmcpiaa.frzR]
  split
  ·split
   ·exact .im .sl0
   ·exact .im (.dead rfl)
  ·exact .own0
 | @osl0 l o a cap =>
  simp only [Proofs.Ytfgjinfmlmcpiaa.frzR]
  split
  ·exact .im (.dead rfl)
  ·exact .osl0
 | @osl l o m b cap hb hn =>
  simp only [Proofs.Ytfgjinfmlmcpiaa.frzR]
  split
  ·exact .im (.dead rfl)
  ·rename_i h0;exact .osl (ji8 h0 hb) hn
 | @mp l b hb =>
  simp only [Proofs.Ytfgjinfmlmcpiaa.frzR]
  split
  ·exact .im (.dead rfl)
  ·rename_i h0;exact .mp (ji8 h0 hb)
 | fn hn _ ih=>exact .fn (by rw [jn0];exact hn) fun i hi=>by rw [jl3];exact ih i hi
theorem RV.frzR (hw:WR (mkG E n w1 A1 S1 fx) h bs W) (hp:h[p]?=some (some (.row (xs.map f) T sz))) {x:Value}{d:D} (ht:jf6 d=true) (k:RV (mkG E n w1 A1 S1 fx) W bs x d):RV (mkG E n w1 (A2 A1 bs p) S1 fx) W (bs.set p none) x (Proofs.Ytfgjinfmlmcpiaa.frzR p xs z f d):=by
 cases d with
 | tup ps=>cases ht
 | arr kk m g=>obtain ⟨cs,a,b,c⟩:=k;exact ⟨cs,a,b,fun i hi=>R1.frzR (z:=z) hw hp (c i hi)⟩
 | nil=>exact k
 | cons a b =>
  obtain ⟨cs,h1,h2,h3⟩:=k
  refine ⟨cs,h1,?_,fun i hi=>?_⟩
  ·show cs.size=nc (Proofs.Ytfgjinfmlmcpiaa.frzR p xs z f (.cons a b))
   rw [jn0];exact h2
  ·show R1 _ W _ cs[i] (cell (Proofs.Ytfgjinfmlmcpiaa.frzR p xs z f (.cons a b)) i)
   rw [jl3];exact R1.frzR (z:=z) hw hp (h3 i hi)
 | dead=>trivial
 | own l m T' sz' =>
  have:=R1.frzR (z:=z) hw hp (show R1 _ W bs x (.own l m T' sz') from k)
  simp only [Proofs.Ytfgjinfmlmcpiaa.frzR] at this ⊢
  split<;>(try split)<;>simp_all<;>first|trivial|exact this
 | ptr l o =>
  have:=R1.frzR (z:=z) hw hp (show R1 _ W bs x (.ptr l o) from k)
  simp only [Proofs.Ytfgjinfmlmcpiaa.frzR] at this ⊢
  split<;>simp_all<;>first|trivial|exact this
 | osl l o m =>
  have:=R1.frzR (z:=z) hw hp (show R1 _ W bs x (.osl l o m) from k)
  simp only [Proofs.Ytfgjinfmlmcpiaa.frzR] at this ⊢
  split<;>simp_all<;>first|trivial|exact this
 | mp l =>
  have:=R1.frzR (z:=z) hw hp (show R1 _ W bs x (.mp l) from k)
  simp only [Proofs.Ytfgjinfmlmcpiaa.frzR] at this ⊢
  split<;>simp_all<;>first|trivial|exact this
 | v y=>exact R1.frzR (z:=z) hw hp (show R1 _ W bs x (.v y) from k)
 | sl l z' e=>exact R1.frzR (z:=z) hw hp (show R1 _ W bs x (.sl l z' e) from k)
 | ip d=>exact R1.frzR (z:=z) hw hp (show R1 _ W bs x (.ip d) from k)
 | pr p=>exact R1.frzR (z:=z) hw hp (show R1 _ W bs x (.pr p) from k)
 | fn g c=>exact R1.frzR (z:=z) hw hp (show R1 _ W bs x (.fn g c) from k)
theorem kg5 {d:D} (h:jf6 d=true):jf6 (Proofs.Ytfgjinfmlmcpiaa.frzR p xs z f d)=true:=by
 cases d<;>simp only [Proofs.Ytfgjinfmlmcpiaa.frzR]<;>(repeat' split)<;>first|rfl|exact h
theorem km3 (hw:WR (mkG E n w1 A1 S1 fx) h bs W) (hp:h[p]?=some (some (.row (xs.map f) T sz))) {x:Value}{d:D} (k:RG0 (R1 (mkG E n w1 A1 S1 fx) W bs) x d):RG0 (R1 (mkG E n w1 (A2 A1 bs p) S1 fx) W (bs.set p none)) x (Proofs.Ytfgjinfmlmcpiaa.frzR p xs z f d):=by
 by_cases ht:jf6 d=true
 ·exact je0 (kg5 ht) (RV.frzR (z:=z) hw hp ht (jj5 k))
 ·cases d<;>first|exact absurd rfl ht|exact k.elim
end
theorem jx3 {p:Nat}{α:Type}{xs:List α}{z:α}{f:α→D}:∀(l:List (Nat×D)) (t:Nat),look (l.map fun q=>(q.1,frzR p xs z f q.2)) t=frzR p xs z f (look l t)
 | [],_=>rfl
 | (k,d)::l,t=>by
  simp only [List.map_cons,look]
  split
  ·rfl
  ·exact jx3 l t
theorem ju1:∀{l:List (Nat×D)},l.all (fun p=>jf6 p.2)=true→∀t,jf6 (look l t)=true
 | [],_,t=>rfl
 | (k,d)::l,h,t=>by
  simp only [List.all_cons,Bool.and_eq_true] at h
  simp only [look]
  split
  ·exact h.1
  ·exact ju1 h.2 t
theorem jw8 {E:Env}{n:Nat}{w0:World}{A0:Nat→Prop}{r:Option Nat}{c:Code}{Q:Exit→PUnit→St→Prop}{g:PUnit}{l l':List (Nat×D)}{h h':List (Option Bk)} (p:Nat) {α:Type} (xs:List α) (z:α) (f:α→D) {T sz:Nat}
  (hp:h[p]?=some (some (.row (xs.map f) T sz))) (ht:l.all (fun p=>jf6 p.2)=true) (el:l.map (fun q=>(q.1,frzR p xs z f q.2))=l') (eh:(h.map (Option.map (frzK p xs z f))).set p none=h') (k:DX (MdFn E n [] w0 A0 []) r c Q g (mk l' h')):DX (MdFn E n [] w0 A0 []) r c Q g (mk l h):=by
 subst el eh
 rintro bs a W ⟨w1,A1,S1,f0,marks,a0,e,hr,ok⟩
 have hw:=hr.wr
 have hfx:∀i,fxP [] f0 i=none:=fun i=>by simp [fxP]
 refine k (bs.set p none) a W ⟨w1,A2 A1 bs p,S1,f0,marks,a0,e,⟨hr.defers,hr.size,fun t=>?_,⟨?_,fun i j b hi hj=>?_,fun i b hi=>?_,fun i kk hk=>?_,hw.fr,fun b hb=>⟨(hw.gl b hb).1,.inl (hw.gl b hb).2⟩,hw.g0,hw.tok,hw.mix,hw.s0,fun i b hi=>?_⟩⟩,⟨ok.fr,ok.s1,fun b hb=>?_,fun D hD=>?_,ok.nd,ok.pn⟩⟩
 ·show RV _ W _ _ (look (l.map fun q=>(q.1,frzR p xs z f q.2)) t)
  rw [jx3]
  exact RV.frzR hw hp (ju1 ht t) (hr.slots t)
 ·have:=hw.len
  simp only [mk] at this
  simp [mk,this]
 ·exact hw.inj i j b (jk9 hi).2 (jk9 hj).2
 ·exact hw.ok i b (jk9 hi).2
 ·simp only [mk] at hk
  rw [List.getElem?_set] at hk
  split at hk
  ·split at hk<;>cases hk
  ·rename_i hne
   rw [List.getElem?_map,Option.map_eq_some_iff] at hk
   obtain ⟨k0,hk0,hk1⟩:=hk
   cases k0 with
   | none=>cases hk1
   | some k1 =>
    simp only [Option.map_some,Option.some.injEq] at hk1
    subst hk1
    rcases hw.blk i k1 hk0 with ⟨b,hb,hB⟩|⟨T',sz',h0,h3⟩
    ·refine .inl ⟨b,ji8 (fun e=>hne e.symm) hb,?_⟩
     cases k1 with
     | one d =>
      obtain ⟨cs,T',fz,e1,e2,e3,e4⟩:=hB
      exact ⟨cs,T',fz,e1,by rw [jn0];exact e2,e3,fun i hi=>by rw [jl3];exact (e4 i hi).frzR hw hp⟩
     | row L T' sz' =>
      obtain ⟨cs,fz,e1,e2,e3,e4,e5⟩:=hB
      exact ⟨cs,fz,e1,e2,e3,e4,fun i j hi hj=>let ⟨x,hx,hr⟩:=e5 i j hi hj;⟨x,hx,hr.mono fun b hb=>⟨hb.frzR,rfl⟩⟩⟩
     | mp es clk =>
      obtain ⟨es',e1,e2⟩:=hB
      exact ⟨es',e1,e2.mapR fun _ p' k=>⟨k.1,k.2.1,km3 hw hp k.2.2⟩⟩
     | it l since seen last =>
      obtain ⟨m,e1,e2⟩:=hB
      simp only [frzK]
      split
      ·trivial
      ·rename_i h0;exact ⟨m,e1,ji8 h0 e2⟩
     | any=>trivial
    ·subst h0
     refine .inr ⟨T',sz',rfl,?_⟩
     rw [List.getElem?_set,if_neg hne];exact h3
 ·rw [show (mkG E n w1 (A2 A1 bs p) S1 (fxP [] f0)).fx i=fxP [] f0 i from rfl,hfx] at hi;cases hi
 ·rcases hb with hb|hb
  ·exact ok.a1 b hb
  ·refine .inr (Nat.le_of_not_lt fun hlt=>(hw.ok p b hb).2 (ok.s1 b ⟨hlt,by simp⟩))
 ·obtain ⟨q1,q2,q3,q4⟩:=ok.mrk D hD
  refine ⟨q1,fun h=>?_,q3,q4⟩
  rcases h with h|h
  ·exact q2 h
  ·exact (hw.ok p D h).2 q1

theorem WeakX.takeP {E:Env}{n:Nat}{pins:List Nat}{l:List (Nat×D)}{h h':List (Option Bk)} (k:Nat) (hpk:pins.all (Nat.blt · k)=true) (hs:l.all (fun p=>ltB k p.2)=true) (hb:(h.take k).all (ltBk k)=true) (eh:h.take k=h'):WeakX E n pins (mk l h) (mk l h'):=fun _ _ _ _=>eh ▸ Weak.take k (fun i b hi=>by
 simp only [mkG,fxP] at hi
 split at hi
 ·rename_i hc
  have:=List.all_eq_true.1 hpk i (by simpa using hc)
  simpa using this
 ·cases hi) hs hb
section
variable {md:Region.Mode}{ops:Array Oper}
variable {C:Cx}
end
section
variable {md:Region.Mode}{ops:Array Oper}
variable {C:Cx}
end
structure InvA (md:Region.Mode) (ops:Array Oper) (n:Nat) (lp:Array Bool):Prop where
 size:lp.size=ops.size
 closed:∀j oj,j≠n+2→ops[j]?=some oj→lp.getD j false=true→∀e ∈ oj.after,Region.binds md e=true→lp.getD e.on false=true
 tail:∀t,n≤t→t≠n+2→t<ops.size→lp.getD t true=false
 made:lp.getD (n+2) false=true
section
variable {md:Region.Mode}{ops:Array Oper}
theorem InvA.set {n i:Nat}{lp:Array Bool} (inv:InvA md ops n lp) (hi:i ∈ Region.ready md ops lp) (hin:i<n):InvA md ops n (lp.setIfInBounds i true):=by
 obtain ⟨_,oi,hoi,hall⟩:=mem_ready.1 hi
 refine ⟨by simp [inv.size],fun j oj hjp hj hl e he hb=>?_,fun t ht hp ht'=>by rw [getD_set_ne true (by omega)];exact inv.tail t ht hp ht',getD_set_true inv.made⟩
 by_cases hij:i=j
 ·subst hij
  have:oj=oi:=Option.some.inj (hj.symm.trans hoi)
  subst this
  exact getD_set_true (hall e he hb)
 ·rw [getD_set_ne false hij] at hl
  exact getD_set_true (inv.closed j oj hjp hj hl e he hb)
variable {C:Cx}
def YD2 (C:Cx) (o:Oper) (z:Bk) (d:D) (st:St):Prop:=dstB C o=true∧o.guard=none∧DQ C o (ja2 C st o) st.h d∧DQ C o (ja2 C st o) (st.h++[some z]) d
theorem YD2.put {o:Oper}{z:Bk}{d:D}{st:St} (hy:YD2 C o z d st) {dst:Option Tmp}{e:D} (h:∀t,dst=some t→t ∉ o.looksAt ops):YD2 C o z d (st.put dst e):=by
 refine ⟨hy.1,hy.2.1,?_⟩
 rw [jl2 h,jr4]
 exact hy.2.2
theorem YD2.unput {o:Oper}{z:Bk}{d:D}{st:St}{dst:Option Tmp}{e:D} (h:∀t,dst=some t→t ∉ o.looksAt ops) (hy:YD2 C o z d (st.put dst e)):YD2 C o z d st:=by
 refine ⟨hy.1,hy.2.1,?_⟩
 have h2:=hy.2.2
 rw [jl2 h,jr4] at h2
 exact h2
section
variable {df:List Deferred}{Q:Exit→Act→World→Prop}{z:Bk}
end
end
section
variable {C:Cx}{K:St→Prop}{o:Oper}{rest:List Oper}{σ:Nat→D}{h:List (Option Bk)}{z:Bk}
end
end Go.Proofs.Ytfgjinfmlmcpiaa
