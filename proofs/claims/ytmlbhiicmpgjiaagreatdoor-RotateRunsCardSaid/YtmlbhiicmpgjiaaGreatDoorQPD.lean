/- The types and the package variables, as values stand for data. Printed by a program. Computing in a few words. Steps whose computing is left to an auto-parameter: short texts. More steps whose computing is left to an auto-parameter: guarded operations, arrays compared. Steps of walks in a mode, their computing left to auto-parameters. It speaks of no program of ours. What is handed back, part by part; pointers to own blocks that nobody writes any more. It speaks of no program of ours. Whole regions as one rule, their steps left to auto-parameters. It speaks of no program of ours. The first own block is let go; nil in a part of a block. It speaks of no program of ours. Calls of functions that hand back own blocks of theirs. It speaks of no program of ours. An own row is let stand: from then on nobody writes it. Methods that write through their pointer, by contracts with own blocks. It speaks of no program of ours. Regions that draw their order, whose first operation (a move) may also come late. It speaks of no program of ours. A copy into an array of one's own, its computing left to auto-parameters. It speaks of no program of ours. Structs compared; a pointer compared with nil; calls whose arguments lead to own blocks. It speaks of no program of ours. Regions that draw their order, in which one part of a result may be taken late (behind the store of the other part). It speaks of no program of ours. Regions that draw their order, in which a new block is made at any time, and one part of a result may be taken late. It speaks of no program of ours. Structs compared, in the form in which walks use it. It speaks of no program of ours. -/
import Derived.Test.YtmlbhiicmpgjiaaGreatDoorQPB
import Derived.Test.YtmlbhiicmpgjiaaGreatDoorProg
import Derived.Test.YtmlbhiicmpgjiaaGreatDoorQPC
set_option linter.unusedSimpArgs false
set_option linter.unusedVariables false
set_option maxRecDepth 10000
namespace Go.Proofs.YtmlbhiicmpgjiaaGreatDoor
open Go.RowKit

def kT:List UInt32:=[0x428a2f98,0x71374491,0xb5c0fbcf,0xe9b5dba5,0x3956c25b,0x59f111f1,0x923f82a4,0xab1c5ed5,0xd807aa98,0x12835b01,0x243185be,0x550c7dc3,0x72be5d74,0x80deb1fe,0x9bdc06a7,0xc19bf174,0xe49b69c1,0xefbe4786,0x0fc19dc6,0x240ca1cc,0x2de92c6f,0x4a7484aa,0x5cb0a9dc,0x76f988da,0x983e5152,0xa831c66d,0xb00327c8,0xbf597fc7,0xc6e00bf3,0xd5a79147,0x06ca6351,0x14292967,0x27b70a85,0x2e1b2138,0x4d2c6dfc,0x53380d13,0x650a7354,0x766a0abb,0x81c2c92e,0x92722c85,0xa2bfe8a1,0xa81a664b,0xc24b8b70,0xc76c51a3,0xd192e819,0xd6990624,0xf40e3585,0x106aa070,0x19a4c116,0x1e376c08,0x2748774c,0x34b0bcb5,0x391c0cb3,0x4ed8aa4a,0x5b9cca4f,0x682e6ff3,0x748f82ee,0x78a5636f,0x84c87814,0x8cc70208,0x90befffa,0xa4506ceb,0xbef9a3f7,0xc67178f2]

def tyT:Nat→Option TE
 | 1=>some ⟨.other,1,8,(.v .nilFunc)⟩
 | 2=>some ⟨.int .i64,1,8,(.v (.int .i64 0))⟩
 | 3=>some ⟨.int .i64,1,8,(.v (.int .i64 0))⟩
 | 4=>some ⟨.bool,1,1,(.v (.bool false))⟩
 | 5=>some ⟨.int .u8,1,1,(.v (.int .u8 0))⟩
 | 9=>some ⟨.str,1,16,(.v (.string (B [])))⟩
 | 22=>some ⟨.slice 29,1,24,(.v (.slice none 0 0))⟩
 | 23=>some ⟨.slice 42,1,24,(.v (.slice none 0 0))⟩
 | 25=>some ⟨.struct [(9,0),(3,1),(3,2)],3,32,(.cons (.v (.string (B []))) (.cons (.v (.int .i64 0)) (.cons (.v (.int .i64 0)) .nil)))⟩
 | 27=>some ⟨.array 32 5,32,32,(.arr .u8 32 (fun _=>0))⟩
 | 29=>some ⟨.struct [(3,0),(2,1),(2,2),(3,3),(27,4)],36,64,(.cons (.v (.int .i64 0)) (.cons (.v (.int .i64 0)) (.cons (.v (.int .i64 0)) (.cons (.v (.int .i64 0)) (.cons (.arr .u8 32 (fun _=>0)) .nil)))))⟩
 | 31=>some ⟨.slice 36,1,24,(.v (.slice none 0 0))⟩
 | 36=>some ⟨.int .i64,1,8,(.v (.int .i64 0))⟩
 | 38=>some ⟨.ptr 62,1,8,(.v (.pointer none))⟩
 | 42=>some ⟨.struct [(29,0),(9,36)],37,80,(.cons (.cons (.v (.int .i64 0)) (.cons (.v (.int .i64 0)) (.cons (.v (.int .i64 0)) (.cons (.v (.int .i64 0)) (.cons (.arr .u8 32 (fun _=>0)) .nil))))) (.cons (.v (.string (B []))) .nil))⟩
 | 45=>some ⟨.slice 27,1,24,(.v (.slice none 0 0))⟩
 | 47=>some ⟨.struct [(25,0),(45,3)],4,56,(.cons (.cons (.v (.string (B []))) (.cons (.v (.int .i64 0)) (.cons (.v (.int .i64 0)) .nil))) (.cons (.v (.slice none 0 0)) .nil))⟩
 | 62=>some ⟨.struct [(25,0),(45,3),(27,4)],36,88,(.cons (.cons (.v (.string (B []))) (.cons (.v (.int .i64 0)) (.cons (.v (.int .i64 0)) .nil))) (.cons (.v (.slice none 0 0)) (.cons (.arr .u8 32 (fun _=>0)) .nil)))⟩
 | 76=>some ⟨.slice 9,1,24,(.v (.slice none 0 0))⟩
 | 81=>some ⟨.slice 5,1,24,(.v (.slice none 0 0))⟩
 | 87=>some ⟨.other,1,8,(.v .nilFunc)⟩
 | 89=>some ⟨.struct [(45,0),(87,1)],2,32,(.cons (.v (.slice none 0 0)) (.cons (.v .nilFunc) .nil))⟩
 | 91=>some ⟨.int .u64,1,8,(.v (.int .u64 0))⟩
 | 92=>some ⟨.array 4 91,4,32,(.arr .u64 4 (fun _=>0))⟩
 | 97=>some ⟨.slice 2,1,24,(.v (.slice none 0 0))⟩
 | 112=>some ⟨.struct [(4,0)],1,1,(.cons (.v (.bool false)) .nil)⟩
 | 115=>some ⟨.int .u32,1,4,(.v (.int .u32 0))⟩
 | 116=>some ⟨.array 8 115,8,32,(.arr .u32 8 (fun _=>0))⟩
 | 117=>some ⟨.array 8 115,8,32,(.arr .u32 8 (fun _=>0))⟩
 | 121=>some ⟨.int .u64,1,8,(.v (.int .u64 0))⟩
 | 126=>some ⟨.slice 3,1,24,(.v (.slice none 0 0))⟩
 | 144=>some ⟨.struct [(3,0),(36,1)],2,16,(.cons (.v (.int .i64 0)) (.cons (.v (.int .i64 0)) .nil))⟩
 | 146=>some ⟨.array 64 115,64,256,(.arr .u32 64 (fun _=>0))⟩
 | 149=>some ⟨.slice 115,1,24,(.v (.slice none 0 0))⟩
 | _=>none
set_option maxRecDepth 20000 in
set_option maxHeartbeats 4000000 in
theorem wd4:TOK Tryz.prog tyT:=by
 intro t e h
 unfold tyT at h
 split at h
 all_goals first|(cases h;kernel_rfl)|(cases h;done)
def gtab:Nat→D
 | 0=>.arr .u32 8 (fun i=>(([0x6a09e667,0xbb67ae85,0x3c6ef372,0xa54ff53a,0x510e527f,0x9b05688c,0x1f83d9ab,0x5be0cd19]:List UInt32).getD i 0).toNat)
 | 1=>.arr .u32 64 (fun i=>(kT.getD i 0).toNat)
 | _=>.dead
def ja9 (P:Program):Env:=⟨P,tyT,gtab,2⟩
theorem vv4:Tryz.prog.follows .mixedOrders=true:=by kernel_rfl
theorem dsx {p:Prop} (h:p:=by (simp only [jc0,implies_true,setD,bslF,jf8,je6,List.zip_cons_cons,List.zip_nil_right,List.zip_nil_left,jc1,rng0,rng1,rng2,rng3,rng4,rng5,rng6,rng7,rng8,List.getD_cons_zero,List.getD_cons_succ,Nat.reduceLeDiff,decide_true,decide_false,List.all_cons,List.all_nil,dqF,nilF,jh9,jc7,Op.operands,Call.operands,evD,cD,gip,upd,look,List.map,List.map_cons,List.map_nil,binF,binI,shI,binS,unF,wD,kLo,kHi,kMod,jh8,jh1,jh2,jg0,jf9,jg2,jg1,lenF,lenD,jf2,je9,minF,je7,cutL,bndF,sub,nc,aggT,aggB,scB,tnth,elems,L_B,L_mk,List.getElem?_cons_zero,List.getElem?_cons_succ,reduceIte,reduceCtorEq,Option.isSome,List.toList_toArray,Nat.reduceAdd,Nat.reduceSub,Nat.reduceMul,Nat.reduceEqDiff,Nat.reduceLT,Nat.reduceBEq,mkF,mkG,Bool.and_true,Bool.true_and,Bool.and_false,Bool.false_and,beq_self_eq_true,mkC,Int.reduceToNat,Int.toNat_natCast,Int.reduceAdd,Int.reduceSub,Int.reduceMul,Nat.zero_add,Nat.add_zero,Nat.mul_one,and_true,true_and,Option.getD_some,Option.getD_none,ne_eq,not_true_eq_false,not_false_eq_true,decide_not,Bool.not_true,Bool.not_false,Int.reduceLT,Int.reduceLE,Int.reduceEq,Int.reduceNe,Int.reduceGT,Int.reduceGE,gt_iff_lt,ge_iff_le,Nat.reduceLT,Nat.reduceLeDiff,u32D,u8D,iD,bD,strD,jf7,jh5,jf5,jf3,jf6,je4,jf0,jh6,jg9,ja9,tyT,gtab,hX];exact rfl)):p:=h
theorem dsy {p:Prop} (h:p:=by (simp only [jc0,implies_true,setD,bslF,jf8,je6,List.zip_cons_cons,List.zip_nil_right,List.zip_nil_left,jc1,rng0,rng1,rng2,rng3,rng4,rng5,rng6,rng7,rng8,List.getD_cons_zero,List.getD_cons_succ,Nat.reduceLeDiff,decide_true,decide_false,List.all_cons,List.all_nil,dqF,nilF,jh9,jc7,Op.operands,Call.operands,evD,cD,gip,upd,look,List.map,List.map_cons,List.map_nil,binF,binI,shI,binS,unF,wD,kLo,kHi,kMod,jh8,jh1,jh2,jg0,jf9,jg2,jg1,lenF,lenD,jf2,je9,minF,je7,cutL,bndF,sub,nc,aggT,aggB,scB,tnth,elems,L_B,L_mk,List.getElem?_cons_zero,List.getElem?_cons_succ,reduceIte,reduceCtorEq,Option.isSome,List.toList_toArray,Nat.reduceAdd,Nat.reduceSub,Nat.reduceMul,Nat.reduceEqDiff,Nat.reduceLT,Nat.reduceBEq,mkF,mkG,Bool.and_true,Bool.true_and,Bool.and_false,Bool.false_and,beq_self_eq_true,mkC,Int.reduceToNat,Int.toNat_natCast,Int.reduceAdd,Int.reduceSub,Int.reduceMul,Nat.zero_add,Nat.add_zero,Nat.mul_one,and_true,true_and,Option.getD_some,Option.getD_none,ne_eq,not_true_eq_false,not_false_eq_true,decide_not,Bool.not_true,Bool.not_false,Int.reduceLT,Int.reduceLE,Int.reduceEq,Int.reduceNe,Int.reduceGT,Int.reduceGE,gt_iff_lt,ge_iff_le,Nat.reduceLT,Nat.reduceLeDiff,u32D,u8D,iD,bD,strD,jf7,jh5,jf5,jf3,jf6,je4,jf0,jh6,jg9,ja9,tyT,gtab,hX]<;>exact rfl)):p:=h
theorem dsh {p:Prop} (h:p:=by (simp only [jc0,implies_true,setD,bslF,jf8,je6,List.zip_cons_cons,List.zip_nil_right,List.zip_nil_left,jc1,rng0,rng1,rng2,rng3,rng4,rng5,rng6,rng7,rng8,List.getD_cons_zero,List.getD_cons_succ,Nat.reduceLeDiff,decide_true,decide_false,List.all_cons,List.all_nil,dqF,nilF,jh9,jc7,Op.operands,Call.operands,evD,cD,gip,upd,look,List.map,List.map_cons,List.map_nil,binF,binI,shI,binS,unF,wD,kLo,kHi,kMod,jh8,jh1,jh2,jg0,jf9,jg2,jg1,lenF,lenD,jf2,je9,minF,je7,cutL,bndF,sub,nc,aggT,aggB,scB,tnth,elems,L_B,L_mk,List.getElem?_cons_zero,List.getElem?_cons_succ,reduceIte,reduceCtorEq,Option.isSome,List.toList_toArray,Nat.reduceAdd,Nat.reduceSub,Nat.reduceMul,Nat.reduceEqDiff,Nat.reduceLT,Nat.reduceBEq,mkF,mkG,Bool.and_true,Bool.true_and,Bool.and_false,Bool.false_and,beq_self_eq_true,mkC,Int.reduceToNat,Int.toNat_natCast,Int.reduceAdd,Int.reduceSub,Int.reduceMul,Nat.zero_add,Nat.add_zero,Nat.mul_one,and_true,true_and,Option.getD_some,Option.getD_none,ne_eq,not_true_eq_false,not_false_eq_true,decide_not,Bool.not_true,Bool.not_false,Int.reduceLT,Int.reduceLE,Int.reduceEq,Int.reduceNe,Int.reduceGT,Int.reduceGE,gt_iff_lt,ge_iff_le,Nat.reduceLT,Nat.reduceLeDiff,u32D,u8D,iD,bD,strD,jf7,jh5,jf5,jf3,jf6,je4,jf0,jh6,jg9,hX]<;>exact rfl)):p:=h
theorem dsa {p:Prop} (h:p:=by (simp only [Array.toList_append,List.cons_append,List.nil_append,jc0,implies_true,setD,bslF,jf8,je6,List.zip_cons_cons,List.zip_nil_right,List.zip_nil_left,jc1,rng0,rng1,rng2,rng3,rng4,rng5,rng6,rng7,rng8,List.getD_cons_zero,List.getD_cons_succ,Nat.reduceLeDiff,decide_true,decide_false,List.all_cons,List.all_nil,dqF,nilF,jh9,jc7,Op.operands,Call.operands,evD,cD,gip,upd,look,List.map,List.map_cons,List.map_nil,binF,binI,shI,binS,unF,wD,kLo,kHi,kMod,jh8,jh1,jh2,jg0,jf9,jg2,jg1,lenF,lenD,jf2,je9,minF,je7,cutL,bndF,sub,nc,aggT,aggB,scB,tnth,elems,L_B,L_mk,List.getElem?_cons_zero,List.getElem?_cons_succ,reduceIte,reduceCtorEq,Option.isSome,List.toList_toArray,Nat.reduceAdd,Nat.reduceSub,Nat.reduceMul,Nat.reduceEqDiff,Nat.reduceLT,Nat.reduceBEq,mkF,mkG,Bool.and_true,Bool.true_and,Bool.and_false,Bool.false_and,beq_self_eq_true,mkC,Int.reduceToNat,Int.toNat_natCast,Int.reduceAdd,Int.reduceSub,Int.reduceMul,Nat.zero_add,Nat.add_zero,Nat.mul_one,and_true,true_and,Option.getD_some,Option.getD_none,ne_eq,not_true_eq_false,not_false_eq_true,decide_not,Bool.not_true,Bool.not_false,Int.reduceLT,Int.reduceLE,Int.reduceEq,Int.reduceNe,Int.reduceGT,Int.reduceGE,gt_iff_lt,ge_iff_le,Nat.reduceLT,Nat.reduceLeDiff,u32D,u8D,iD,bD,strD,jf7,jh5,jf5,jf3,jf6,je4,jf0,jh6,jg9,ja9,tyT,gtab,hX];exact rfl)):p:=h
theorem dsb {p:Prop} (h:p:=by (simp only [Array.toList_append,List.cons_append,List.nil_append,jc0,implies_true,setD,bslF,jf8,je6,List.zip_cons_cons,List.zip_nil_right,List.zip_nil_left,jc1,rng0,rng1,rng2,rng3,rng4,rng5,rng6,rng7,rng8,List.getD_cons_zero,List.getD_cons_succ,Nat.reduceLeDiff,decide_true,decide_false,List.all_cons,List.all_nil,dqF,nilF,jh9,jc7,Op.operands,Call.operands,evD,cD,gip,upd,look,List.map,List.map_cons,List.map_nil,binF,binI,shI,binS,unF,wD,kLo,kHi,kMod,jh8,jh1,jh2,jg0,jf9,jg2,jg1,lenF,lenD,jf2,je9,minF,je7,cutL,bndF,sub,nc,aggT,aggB,scB,tnth,elems,L_B,L_mk,List.getElem?_cons_zero,List.getElem?_cons_succ,reduceIte,reduceCtorEq,Option.isSome,List.toList_toArray,Nat.reduceAdd,Nat.reduceSub,Nat.reduceMul,Nat.reduceEqDiff,Nat.reduceLT,Nat.reduceBEq,mkF,mkG,Bool.and_true,Bool.true_and,Bool.and_false,Bool.false_and,beq_self_eq_true,mkC,Int.reduceToNat,Int.toNat_natCast,Int.reduceAdd,Int.reduceSub,Int.reduceMul,Nat.zero_add,Nat.add_zero,Nat.mul_one,and_true,true_and,Option.getD_some,Option.getD_none,ne_eq,not_true_eq_false,not_false_eq_true,decide_not,Bool.not_true,Bool.not_false,Int.reduceLT,Int.reduceLE,Int.reduceEq,Int.reduceNe,Int.reduceGT,Int.reduceGE,gt_iff_lt,ge_iff_le,Nat.reduceLT,Nat.reduceLeDiff,u32D,u8D,iD,bD,strD,jf7,jh5,jf5,jf3,jf6,je4,jf0,jh6,jg9,ja9,tyT,gtab,hX]<;>exact rfl)):p:=h
theorem dse {p:Prop} (h:p:=by (simp only [St.put,kilH,kil,kilB,List.map,List.set,List.length,List.nil_append,List.cons_append,List.append_nil,Option.map,jm5,setD,srcD,jc0,jc0,implies_true,setD,bslF,jf8,je6,List.zip_cons_cons,List.zip_nil_right,List.zip_nil_left,jc1,rng0,rng1,rng2,rng3,rng4,rng5,rng6,rng7,rng8,List.getD_cons_zero,List.getD_cons_succ,Nat.reduceLeDiff,decide_true,decide_false,List.all_cons,List.all_nil,dqF,nilF,jh9,jc7,Op.operands,Call.operands,evD,cD,gip,upd,look,List.map,List.map_cons,List.map_nil,binF,binI,shI,binS,unF,wD,kLo,kHi,kMod,jh8,jh1,jh2,jg0,jf9,jg2,jg1,lenF,lenD,jf2,je9,minF,je7,cutL,bndF,sub,nc,aggT,aggB,scB,tnth,elems,L_B,L_mk,List.getElem?_cons_zero,List.getElem?_cons_succ,reduceIte,reduceCtorEq,Option.isSome,List.toList_toArray,Nat.reduceAdd,Nat.reduceSub,Nat.reduceMul,Nat.reduceEqDiff,Nat.reduceLT,Nat.reduceBEq,mkF,mkG,Bool.and_true,Bool.true_and,Bool.and_false,Bool.false_and,beq_self_eq_true,mkC,Int.reduceToNat,Int.toNat_natCast,Int.reduceAdd,Int.reduceSub,Int.reduceMul,Nat.zero_add,Nat.add_zero,Nat.mul_one,and_true,true_and,Option.getD_some,Option.getD_none,u32D,u8D,iD,bD,strD,jf7,jh5,jf5,jf3,jf6,je4,jf0,jh6,jg9,hX,ja9,tyT,gtab];exact rfl)):p:=h
theorem dsf {p:Prop} (h:p:=by (simp only [St.put,kilH,kil,kilB,List.map,List.set,List.length,List.nil_append,List.cons_append,List.append_nil,Option.map,jm5,setD,srcD,jc0,jc0,implies_true,setD,bslF,jf8,je6,List.zip_cons_cons,List.zip_nil_right,List.zip_nil_left,jc1,rng0,rng1,rng2,rng3,rng4,rng5,rng6,rng7,rng8,List.getD_cons_zero,List.getD_cons_succ,Nat.reduceLeDiff,decide_true,decide_false,List.all_cons,List.all_nil,dqF,nilF,jh9,jc7,Op.operands,Call.operands,evD,cD,gip,upd,look,List.map,List.map_cons,List.map_nil,binF,binI,shI,binS,unF,wD,kLo,kHi,kMod,jh8,jh1,jh2,jg0,jf9,jg2,jg1,lenF,lenD,jf2,je9,minF,je7,cutL,bndF,sub,nc,aggT,aggB,scB,tnth,elems,L_B,L_mk,List.getElem?_cons_zero,List.getElem?_cons_succ,reduceIte,reduceCtorEq,Option.isSome,List.toList_toArray,Nat.reduceAdd,Nat.reduceSub,Nat.reduceMul,Nat.reduceEqDiff,Nat.reduceLT,Nat.reduceBEq,mkF,mkG,Bool.and_true,Bool.true_and,Bool.and_false,Bool.false_and,beq_self_eq_true,mkC,Int.reduceToNat,Int.toNat_natCast,Int.reduceAdd,Int.reduceSub,Int.reduceMul,Nat.zero_add,Nat.add_zero,Nat.mul_one,and_true,true_and,Option.getD_some,Option.getD_none,ne_eq,not_true_eq_false,not_false_eq_true,decide_not,Bool.not_true,Bool.not_false,Int.reduceLT,Int.reduceLE,Int.reduceEq,Int.reduceNe,Int.reduceGT,Int.reduceGE,gt_iff_lt,ge_iff_le,Nat.reduceLT,Nat.reduceLeDiff,u32D,u8D,iD,bD,strD,jf7,jh5,jf5,jf3,jf6,je4,jf0,jh6,jg9,hX,ja9,tyT,gtab]<;>exact rfl)):p:=h
theorem dsg {p:Prop} (h:p:=by (simp only [St.put,kilH,kil,kilB,List.map,List.set,List.length,List.nil_append,List.cons_append,List.append_nil,Option.map,jm5,setD,srcD,jc0,jc0,implies_true,setD,bslF,jf8,je6,List.zip_cons_cons,List.zip_nil_right,List.zip_nil_left,jc1,rng0,rng1,rng2,rng3,rng4,rng5,rng6,rng7,rng8,List.getD_cons_zero,List.getD_cons_succ,Nat.reduceLeDiff,decide_true,decide_false,List.all_cons,List.all_nil,dqF,nilF,jh9,jc7,Op.operands,Call.operands,evD,cD,gip,upd,look,List.map,List.map_cons,List.map_nil,binF,binI,shI,binS,unF,wD,kLo,kHi,kMod,jh8,jh1,jh2,jg0,jf9,jg2,jg1,lenF,lenD,jf2,je9,minF,je7,cutL,bndF,sub,nc,aggT,aggB,scB,tnth,elems,L_B,L_mk,List.getElem?_cons_zero,List.getElem?_cons_succ,reduceIte,reduceCtorEq,Option.isSome,List.toList_toArray,Nat.reduceAdd,Nat.reduceSub,Nat.reduceMul,Nat.reduceEqDiff,Nat.reduceLT,Nat.reduceBEq,mkF,mkG,Bool.and_true,Bool.true_and,Bool.and_false,Bool.false_and,beq_self_eq_true,mkC,Int.reduceToNat,Int.toNat_natCast,Int.reduceAdd,Int.reduceSub,Int.reduceMul,Nat.zero_add,Nat.add_zero,Nat.mul_one,and_true,true_and,Option.getD_some,Option.getD_none,ne_eq,not_true_eq_false,not_false_eq_true,decide_not,Bool.not_true,Bool.not_false,Int.reduceLT,Int.reduceLE,Int.reduceEq,Int.reduceNe,Int.reduceGT,Int.reduceGE,gt_iff_lt,ge_iff_le,Nat.reduceLT,Nat.reduceLeDiff,u32D,u8D,iD,bD,strD,jf7,jh5,jf5,jf3,jf6,je4,jf0,jh6,jg9,hX,ja9,tyT,gtab];exact rfl)):p:=h
theorem dsd {p:Prop} (h:p:=by (simp only [jc0,implies_true,setD,bslF,jf8,je6,List.zip_cons_cons,List.zip_nil_right,List.zip_nil_left,jc1,rng0,rng1,rng2,rng3,rng4,rng5,rng6,rng7,rng8,List.getD_cons_zero,List.getD_cons_succ,Nat.reduceLeDiff,decide_true,decide_false,List.all_cons,List.all_nil,dqF,nilF,jh9,jc7,Op.operands,Call.operands,evD,cD,gip,upd,look,List.map,List.map_cons,List.map_nil,binF,binI,shI,binS,unF,wD,kLo,kHi,kMod,jh8,jh1,jh2,jg0,jf9,jg2,jg1,lenF,lenD,jf2,je9,minF,je7,cutL,bndF,sub,nc,aggT,aggB,scB,tnth,elems,L_B,L_mk,List.getElem?_cons_zero,List.getElem?_cons_succ,reduceIte,reduceCtorEq,Option.isSome,List.toList_toArray,Nat.reduceAdd,Nat.reduceSub,Nat.reduceMul,Nat.reduceEqDiff,Nat.reduceLT,Nat.reduceBEq,mkF,mkG,Bool.and_true,Bool.true_and,Bool.and_false,Bool.false_and,beq_self_eq_true,mkC,Int.reduceToNat,Int.toNat_natCast,Int.reduceAdd,Int.reduceSub,Int.reduceMul,Nat.zero_add,Nat.add_zero,Nat.mul_one,and_true,true_and,Option.getD_some,Option.getD_none,u32D,u8D,iD,bD,strD,jf7,jh5,jf5,jf3,jf6,je4,jf0,jh6,jg9,ja9,tyT,gtab,hX];exact rfl)):p:=h
theorem dsk {p:Prop} (h:p:=by (simp only [jc0,implies_true,setD,bslF,jf8,je6,List.zip_cons_cons,List.zip_nil_right,List.zip_nil_left,jc1,rng0,rng1,rng2,rng3,rng4,rng5,rng6,rng7,rng8,List.getD_cons_zero,List.getD_cons_succ,Nat.reduceLeDiff,decide_true,decide_false,List.all_cons,List.all_nil,dqF,nilF,jh9,jc7,Op.operands,Call.operands,evD,cD,gip,upd,look,List.map,List.map_cons,List.map_nil,binF,binI,shI,binS,unF,wD,kLo,kHi,kMod,jh8,jh1,jh2,jg0,jf9,jg2,jg1,lenF,lenD,jf2,je9,minF,je7,cutL,bndF,sub,nc,aggT,aggB,scB,tnth,elems,L_B,L_mk,List.getElem?_cons_zero,List.getElem?_cons_succ,reduceIte,reduceCtorEq,Option.isSome,List.toList_toArray,Nat.reduceAdd,Nat.reduceSub,Nat.reduceMul,Nat.reduceEqDiff,Nat.reduceLT,Nat.reduceBEq,mkF,mkG,Bool.and_true,Bool.true_and,Bool.and_false,Bool.false_and,beq_self_eq_true,mkC,Int.reduceToNat,Int.toNat_natCast,Int.reduceAdd,Int.reduceSub,Int.reduceMul,Nat.zero_add,Nat.add_zero,Nat.mul_one,and_true,true_and,Option.getD_some,Option.getD_none,u32D,u8D,iD,bD,strD,jf7,jh5,jf5,jf3,jf6,je4,jf0,jh6,jg9,hX]<;>exact rfl)):p:=h
theorem lnx {p:Prop} (h:p:=by (simp only [L_B,L_mk,bndF,Option.getD_some,Option.getD_none,List.length_cons,List.length_nil,List.length_append,List.length_map,List.length_range,List.length_drop,List.length_take,List.length_replicate,List.length_set,List.length_reverse,hX]<;>omega)):p:=h
theorem dz0 {p:Prop} (h:p:=by (simp only [jc0,implies_true,setD,bslF,jf8,je6,List.zip_cons_cons,List.zip_nil_right,List.zip_nil_left,jc1,rng0,rng1,rng2,rng3,rng4,rng5,rng6,rng7,rng8,List.getD_cons_zero,List.getD_cons_succ,Nat.reduceLeDiff,decide_true,decide_false,List.all_cons,List.all_nil,dqF,nilF,jh9,jc7,Op.operands,Call.operands,evD,cD,gip,upd,look,List.map,List.map_cons,List.map_nil,binF,binI,shI,binS,unF,wD,kLo,kHi,kMod,jh8,jh1,jh2,jg0,jf9,jg2,jg1,lenF,lenD,jf2,je7,cutL,bndF,sub,nc,aggT,aggB,scB,tnth,elems,L_B,L_mk,List.getElem?_cons_zero,List.getElem?_cons_succ,reduceIte,reduceCtorEq,Option.isSome,List.toList_toArray,Nat.reduceAdd,Nat.reduceSub,Nat.reduceMul,Nat.reduceEqDiff,Nat.reduceLT,Nat.reduceBEq,mkF,Bool.and_true,Bool.true_and,Bool.and_false,Bool.false_and,beq_self_eq_true,mkC,Int.reduceToNat,Int.toNat_natCast,Int.reduceAdd,Int.reduceSub,Int.reduceMul,Nat.zero_add,Nat.add_zero,Nat.mul_one,and_true,true_and,Option.getD_some,Option.getD_none,u32D,u8D,iD,bD,strD,jf7,jh5,jf5,jf3,jf6,je4,jf0,jh6,jg9,ja9,tyT,gtab,hX];exact rfl)):p:=h
theorem dz1 {p:Prop} (h:p:=by (simp only [St.put,kilH,kilB,kil,List.map_cons,List.map_nil,List.set,List.length,List.nil_append,List.cons_append,List.append_nil,Option.map,L_B,Nat.reduceAdd,Nat.zero_add,reduceIte,Nat.reduceEqDiff,hX];exact rfl)):p:=h
theorem dz2 {p:Prop} (h:p:=by (simp only [St.put,kilH,kil,kilB,List.map,List.set,List.length,List.nil_append,List.cons_append,List.append_nil,Option.map,jm5,setD,srcD,jc0,jc0,implies_true,setD,bslF,jf8,je6,List.zip_cons_cons,List.zip_nil_right,List.zip_nil_left,jc1,rng0,rng1,rng2,rng3,rng4,rng5,rng6,rng7,rng8,List.getD_cons_zero,List.getD_cons_succ,Nat.reduceLeDiff,decide_true,decide_false,List.all_cons,List.all_nil,dqF,nilF,jh9,jc7,Op.operands,Call.operands,evD,cD,gip,upd,look,List.map,List.map_cons,List.map_nil,binF,binI,shI,binS,unF,wD,kLo,kHi,kMod,jh8,jh1,jh2,jg0,jf9,jg2,jg1,lenF,lenD,jf2,je7,cutL,bndF,sub,nc,aggT,aggB,scB,tnth,elems,L_B,L_mk,List.getElem?_cons_zero,List.getElem?_cons_succ,reduceIte,reduceCtorEq,Option.isSome,List.toList_toArray,Nat.reduceAdd,Nat.reduceSub,Nat.reduceMul,Nat.reduceEqDiff,Nat.reduceLT,Nat.reduceBEq,mkF,Bool.and_true,Bool.true_and,Bool.and_false,Bool.false_and,beq_self_eq_true,mkC,Int.reduceToNat,Int.toNat_natCast,Int.reduceAdd,Int.reduceSub,Int.reduceMul,Nat.zero_add,Nat.add_zero,Nat.mul_one,and_true,true_and,Option.getD_some,Option.getD_none,u32D,u8D,iD,bD,strD,jf7,jh5,jf5,jf3,jf6,je4,jf0,jh6,jg9,ja9,tyT,gtab,hX];exact rfl)):p:=h
theorem dz3 {p:Prop} (h:p:=by (simp only [pick,kil,jc0,implies_true,setD,bslF,jf8,je6,List.zip_cons_cons,List.zip_nil_right,List.zip_nil_left,jc1,rng0,rng1,rng2,rng3,rng4,rng5,rng6,rng7,rng8,List.getD_cons_zero,List.getD_cons_succ,Nat.reduceLeDiff,decide_true,decide_false,List.all_cons,List.all_nil,dqF,nilF,jh9,jc7,Op.operands,Call.operands,evD,cD,gip,upd,look,List.map,List.map_cons,List.map_nil,binF,binI,shI,binS,unF,wD,kLo,kHi,kMod,jh8,jh1,jh2,jg0,jf9,jg2,jg1,lenF,lenD,jf2,je7,cutL,bndF,sub,nc,aggT,aggB,scB,tnth,elems,L_B,L_mk,List.getElem?_cons_zero,List.getElem?_cons_succ,reduceIte,reduceCtorEq,Option.isSome,List.toList_toArray,Nat.reduceAdd,Nat.reduceSub,Nat.reduceMul,Nat.reduceEqDiff,Nat.reduceLT,Nat.reduceBEq,mkF,Bool.and_true,Bool.true_and,Bool.and_false,Bool.false_and,beq_self_eq_true,mkC,Int.reduceToNat,Int.toNat_natCast,Int.reduceAdd,Int.reduceSub,Int.reduceMul,Nat.zero_add,Nat.add_zero,Nat.mul_one,and_true,true_and,Option.getD_some,Option.getD_none,u32D,u8D,iD,bD,strD,jf7,jh5,jf5,jf3,jf6,je4,jf0,jh6,jg9,hX];exact rfl)):p:=h
theorem dz4 {p:Prop} (h:p:=by (simp only [jc0,implies_true,setD,bslF,jf8,je6,List.zip_cons_cons,List.zip_nil_right,List.zip_nil_left,jc1,rng0,rng1,rng2,rng3,rng4,rng5,rng6,rng7,rng8,List.getD_cons_zero,List.getD_cons_succ,Nat.reduceLeDiff,decide_true,decide_false,List.all_cons,List.all_nil,dqF,nilF,jh9,jc7,Op.operands,Call.operands,evD,cD,gip,upd,look,List.map,List.map_cons,List.map_nil,binF,binI,shI,binS,unF,wD,kLo,kHi,kMod,jh8,jh1,jh2,jg0,jf9,jg2,jg1,lenF,lenD,jf2,je9,minF,je7,cutL,bndF,sub,nc,aggT,aggB,scB,tnth,elems,L_B,L_mk,List.getElem?_cons_zero,List.getElem?_cons_succ,reduceIte,reduceCtorEq,Option.isSome,List.toList_toArray,Nat.reduceAdd,Nat.reduceSub,Nat.reduceMul,Nat.reduceEqDiff,Nat.reduceLT,Nat.reduceBEq,mkF,mkG,Bool.and_true,Bool.true_and,Bool.and_false,Bool.false_and,beq_self_eq_true,mkC,Int.reduceToNat,Int.toNat_natCast,Int.reduceAdd,Int.reduceSub,Int.reduceMul,Nat.zero_add,Nat.add_zero,Nat.mul_one,and_true,true_and,Option.getD_some,Option.getD_none,u32D,u8D,iD,bD,strD,jf7,jh5,jf5,jf3,jf6,je4,jf0,jh6,jg9,hX,Bool.not_true,Bool.not_false]<;>exact rfl)):p:=h
theorem dz5 {p:Prop} (h:p:=by (simp only [eqaF,and_self,if_true,jc0,implies_true,setD,bslF,jf8,je6,List.zip_cons_cons,List.zip_nil_right,List.zip_nil_left,jc1,rng0,rng1,rng2,rng3,rng4,rng5,rng6,rng7,rng8,List.getD_cons_zero,List.getD_cons_succ,Nat.reduceLeDiff,decide_true,decide_false,List.all_cons,List.all_nil,dqF,nilF,jh9,jc7,Op.operands,Call.operands,evD,cD,gip,upd,look,List.map,List.map_cons,List.map_nil,binF,binI,shI,binS,unF,wD,kLo,kHi,kMod,jh8,jh1,jh2,jg0,jf9,jg2,jg1,lenF,lenD,jf2,je9,minF,je7,cutL,bndF,sub,nc,aggT,aggB,scB,tnth,elems,L_B,L_mk,List.getElem?_cons_zero,List.getElem?_cons_succ,reduceIte,reduceCtorEq,Option.isSome,List.toList_toArray,Nat.reduceAdd,Nat.reduceSub,Nat.reduceMul,Nat.reduceEqDiff,Nat.reduceLT,Nat.reduceBEq,mkF,mkG,Bool.and_true,Bool.true_and,Bool.and_false,Bool.false_and,beq_self_eq_true,mkC,Int.reduceToNat,Int.toNat_natCast,Int.reduceAdd,Int.reduceSub,Int.reduceMul,Nat.zero_add,Nat.add_zero,Nat.mul_one,and_true,true_and,Option.getD_some,Option.getD_none,u32D,u8D,iD,bD,strD,jf7,jh5,jf5,jf3,jf6,je4,jf0,jh6,jg9,ja9,tyT,gtab,hX];exact rfl)):p:=h
theorem dz6 {p:Prop} (h:p:=by (simp only [pick,kil,jc0,implies_true,setD,bslF,jf8,je6,List.zip_cons_cons,List.zip_nil_right,List.zip_nil_left,jc1,rng0,rng1,rng2,rng3,rng4,rng5,rng6,rng7,rng8,List.getD_cons_zero,List.getD_cons_succ,Nat.reduceLeDiff,decide_true,decide_false,List.all_cons,List.all_nil,dqF,nilF,jh9,jc7,Op.operands,Call.operands,evD,cD,gip,upd,look,List.map,List.map_cons,List.map_nil,binF,binI,shI,binS,unF,wD,kLo,kHi,kMod,jh8,jh1,jh2,jg0,jf9,jg2,jg1,lenF,lenD,jf2,je9,minF,je7,cutL,bndF,sub,nc,aggT,aggB,scB,tnth,elems,L_B,L_mk,List.getElem?_cons_zero,List.getElem?_cons_succ,reduceIte,reduceCtorEq,Option.isSome,List.toList_toArray,Nat.reduceAdd,Nat.reduceSub,Nat.reduceMul,Nat.reduceEqDiff,Nat.reduceLT,Nat.reduceBEq,mkF,mkG,Bool.and_true,Bool.true_and,Bool.and_false,Bool.false_and,beq_self_eq_true,mkC,Int.reduceToNat,Int.toNat_natCast,Int.reduceAdd,Int.reduceSub,Int.reduceMul,Nat.zero_add,Nat.add_zero,Nat.mul_one,and_true,true_and,Option.getD_some,Option.getD_none,ne_eq,not_true_eq_false,not_false_eq_true,decide_not,Bool.not_true,Bool.not_false,Int.reduceLT,Int.reduceLE,Int.reduceEq,Int.reduceNe,Int.reduceGT,Int.reduceGE,gt_iff_lt,ge_iff_le,Nat.reduceLT,Nat.reduceLeDiff,u32D,u8D,iD,bD,strD,jf7,jh5,jf5,jf3,jf6,je4,jf0,jh6,jg9,hX];exact rfl)):p:=h
theorem dz7 {p:Prop} (h:p:=by (simp only [ji7,Array.toList_append,List.cons_append,List.nil_append,jc0,implies_true,setD,bslF,jf8,je6,List.zip_cons_cons,List.zip_nil_right,List.zip_nil_left,jc1,rng0,rng1,rng2,rng3,rng4,rng5,rng6,rng7,rng8,List.getD_cons_zero,List.getD_cons_succ,Nat.reduceLeDiff,decide_true,decide_false,List.all_cons,List.all_nil,dqF,nilF,jh9,jc7,Op.operands,Call.operands,evD,cD,gip,upd,look,List.map,List.map_cons,List.map_nil,binF,binI,shI,binS,unF,wD,kLo,kHi,kMod,jh8,jh1,jh2,jg0,jf9,jg2,jg1,lenF,lenD,jf2,je9,minF,je7,cutL,bndF,sub,nc,aggT,aggB,scB,tnth,elems,L_B,L_mk,List.getElem?_cons_zero,List.getElem?_cons_succ,reduceIte,reduceCtorEq,Option.isSome,List.toList_toArray,Nat.reduceAdd,Nat.reduceSub,Nat.reduceMul,Nat.reduceEqDiff,Nat.reduceLT,Nat.reduceBEq,mkF,mkG,Bool.and_true,Bool.true_and,Bool.and_false,Bool.false_and,beq_self_eq_true,mkC,Int.reduceToNat,Int.toNat_natCast,Int.reduceAdd,Int.reduceSub,Int.reduceMul,Nat.zero_add,Nat.add_zero,Nat.mul_one,and_true,true_and,Option.getD_some,Option.getD_none,ne_eq,not_true_eq_false,not_false_eq_true,decide_not,Bool.not_true,Bool.not_false,Int.reduceLT,Int.reduceLE,Int.reduceEq,Int.reduceNe,Int.reduceGT,Int.reduceGE,gt_iff_lt,ge_iff_le,Nat.reduceLT,Nat.reduceLeDiff,u32D,u8D,iD,bD,strD,jf7,jh5,jf5,jf3,jf6,je4,jf0,jh6,jg9,ja9,tyT,gtab,hX];exact rfl)):p:=h
theorem dz8 {p:Prop} (h:p:=by (simp only [jl0,Nat.reduceAdd,u32D,u8D,iD,bD,strD,jf7,jh5,jf5,jf3,jf6,je4,jf0,jh6,jg9];exact rfl)):p:=h
theorem dz9 {p:Prop} (h:p:=by (simp only [outD,resD,outV,ja4,List.all,js0,jc0,implies_true,setD,bslF,jf8,je6,List.zip_cons_cons,List.zip_nil_right,List.zip_nil_left,jc1,rng0,rng1,rng2,rng3,rng4,rng5,rng6,rng7,rng8,List.getD_cons_zero,List.getD_cons_succ,Nat.reduceLeDiff,decide_true,decide_false,List.all_cons,List.all_nil,dqF,nilF,jh9,jc7,Op.operands,Call.operands,evD,cD,gip,upd,look,List.map,List.map_cons,List.map_nil,binF,binI,shI,binS,unF,wD,kLo,kHi,kMod,jh8,jh1,jh2,jg0,jf9,jg2,jg1,lenF,lenD,jf2,je9,minF,je7,cutL,bndF,sub,nc,aggT,aggB,scB,tnth,elems,L_B,L_mk,List.getElem?_cons_zero,List.getElem?_cons_succ,reduceIte,reduceCtorEq,Option.isSome,List.toList_toArray,Nat.reduceAdd,Nat.reduceSub,Nat.reduceMul,Nat.reduceEqDiff,Nat.reduceLT,Nat.reduceBEq,mkF,mkG,Bool.and_true,Bool.true_and,Bool.and_false,Bool.false_and,beq_self_eq_true,mkC,Int.reduceToNat,Int.toNat_natCast,Int.reduceAdd,Int.reduceSub,Int.reduceMul,Nat.zero_add,Nat.add_zero,Nat.mul_one,and_true,true_and,Option.getD_some,Option.getD_none,u32D,u8D,iD,bD,strD,jf7,jh5,jf5,jf3,jf6,je4,jf0,jh6,jg9,ja9,tyT,gtab];exact rfl)):p:=h
theorem dz10 {p:Prop} (h:p:=by (simp only [St.put,kilH,kil,kilB,List.map,List.set,List.length,List.nil_append,List.cons_append,List.append_nil,Option.map,jm5,setD,srcD,jc0,jc0,implies_true,setD,bslF,jf8,je6,List.zip_cons_cons,List.zip_nil_right,List.zip_nil_left,jc1,rng0,rng1,rng2,rng3,rng4,rng5,rng6,rng7,rng8,List.getD_cons_zero,List.getD_cons_succ,Nat.reduceLeDiff,decide_true,decide_false,List.all_cons,List.all_nil,dqF,nilF,jh9,jc7,Op.operands,Call.operands,evD,cD,gip,upd,look,List.map,List.map_cons,List.map_nil,binF,binI,shI,binS,unF,wD,kLo,kHi,kMod,jh8,jh1,jh2,jg0,jf9,jg2,jg1,lenF,lenD,jf2,je9,minF,je7,cutL,bndF,sub,nc,aggT,aggB,scB,tnth,elems,L_B,L_mk,List.getElem?_cons_zero,List.getElem?_cons_succ,reduceIte,reduceCtorEq,Option.isSome,List.toList_toArray,Nat.reduceAdd,Nat.reduceSub,Nat.reduceMul,Nat.reduceEqDiff,Nat.reduceLT,Nat.reduceBEq,mkF,mkG,Bool.and_true,Bool.true_and,Bool.and_false,Bool.false_and,beq_self_eq_true,mkC,Int.reduceToNat,Int.toNat_natCast,Int.reduceAdd,Int.reduceSub,Int.reduceMul,Nat.zero_add,Nat.add_zero,Nat.mul_one,and_true,true_and,Option.getD_some,Option.getD_none,u32D,u8D,iD,bD,strD,jf7,jh5,jf5,jf3,jf6,je4,jf0,jh6,jg9,hX,ja9,tyT,gtab];exact rfl)):p:=h
theorem dz11 {p:Prop} (h:p:=by (simp only [jc0,implies_true,setD,bslF,jf8,je6,List.zip_cons_cons,List.zip_nil_right,List.zip_nil_left,jc1,rng0,rng1,rng2,rng3,rng4,rng5,rng6,rng7,rng8,List.getD_cons_zero,List.getD_cons_succ,Nat.reduceLeDiff,decide_true,decide_false,List.all_cons,List.all_nil,dqF,nilF,jh9,jc7,Op.operands,Call.operands,evD,cD,gip,upd,look,List.map,List.map_cons,List.map_nil,binF,binI,shI,binS,unF,wD,kLo,kHi,kMod,jh8,jh1,jh2,jg0,jf9,jg2,jg1,lenF,lenD,jf2,je9,minF,je7,cutL,bndF,sub,nc,aggT,aggB,scB,tnth,elems,L_B,L_mk,List.getElem?_cons_zero,List.getElem?_cons_succ,reduceIte,reduceCtorEq,Option.isSome,List.toList_toArray,Nat.reduceAdd,Nat.reduceSub,Nat.reduceMul,Nat.reduceEqDiff,Nat.reduceLT,Nat.reduceBEq,mkF,mkG,Bool.and_true,Bool.true_and,Bool.and_false,Bool.false_and,beq_self_eq_true,mkC,Int.reduceToNat,Int.toNat_natCast,Int.reduceAdd,Int.reduceSub,Int.reduceMul,Nat.zero_add,Nat.add_zero,Nat.mul_one,and_true,true_and,Option.getD_some,Option.getD_none,u32D,u8D,iD,bD,strD,jf7,jh5,jf5,jf3,jf6,je4,jf0,jh6,jg9,hX,ja9,tyT,gtab];exact rfl)):p:=h
theorem dz12 {p:Prop} (h:p:=by (simp only [jc0,implies_true,setD,bslF,jf8,je6,List.zip_cons_cons,List.zip_nil_right,List.zip_nil_left,jc1,rng0,rng1,rng2,rng3,rng4,rng5,rng6,rng7,rng8,List.getD_cons_zero,List.getD_cons_succ,Nat.reduceLeDiff,decide_true,decide_false,List.all_cons,List.all_nil,dqF,nilF,jh9,jc7,Op.operands,Call.operands,evD,cD,gip,upd,look,List.map,List.map_cons,List.map_nil,binF,binI,shI,binS,unF,wD,kLo,kHi,kMod,jh8,jh1,jh2,jg0,jf9,jg2,jg1,lenF,lenD,jf2,je9,minF,je7,cutL,bndF,sub,nc,aggT,aggB,scB,tnth,elems,L_B,L_mk,List.getElem?_cons_zero,List.getElem?_cons_succ,reduceIte,reduceCtorEq,Option.isSome,List.toList_toArray,Nat.reduceAdd,Nat.reduceSub,Nat.reduceMul,Nat.reduceEqDiff,Nat.reduceLT,Nat.reduceBEq,mkF,mkG,Bool.and_true,Bool.true_and,Bool.and_false,Bool.false_and,beq_self_eq_true,mkC,Int.reduceToNat,Int.toNat_natCast,Int.reduceAdd,Int.reduceSub,Int.reduceMul,Nat.zero_add,Nat.add_zero,Nat.mul_one,and_true,true_and,Option.getD_some,Option.getD_none,ne_eq,not_true_eq_false,not_false_eq_true,decide_not,Bool.not_true,Bool.not_false,Int.reduceLT,Int.reduceLE,Int.reduceEq,Int.reduceNe,Int.reduceGT,Int.reduceGE,gt_iff_lt,ge_iff_le,Nat.reduceLT,Nat.reduceLeDiff,u32D,u8D,iD,bD,strD,jf7,jh5,jf5,jf3,jf6,je4,jf0,jh6,jg9,Array.toList_append,List.cons_append,List.nil_append,hX];exact rfl)):p:=h
theorem dz13 {p:Prop} (h:p:=by (simp only [eqS,eqSs,and_self,if_true,jc0,implies_true,setD,bslF,jf8,je6,List.zip_cons_cons,List.zip_nil_right,List.zip_nil_left,jc1,rng0,rng1,rng2,rng3,rng4,rng5,rng6,rng7,rng8,List.getD_cons_zero,List.getD_cons_succ,Nat.reduceLeDiff,decide_true,decide_false,List.all_cons,List.all_nil,dqF,nilF,jh9,jc7,Op.operands,Call.operands,evD,cD,gip,upd,look,List.map,List.map_cons,List.map_nil,binF,binI,shI,binS,unF,wD,kLo,kHi,kMod,jh8,jh1,jh2,jg0,jf9,jg2,jg1,lenF,lenD,jf2,je9,minF,je7,cutL,bndF,sub,nc,aggT,aggB,scB,tnth,elems,L_B,L_mk,List.getElem?_cons_zero,List.getElem?_cons_succ,reduceIte,reduceCtorEq,Option.isSome,List.toList_toArray,Nat.reduceAdd,Nat.reduceSub,Nat.reduceMul,Nat.reduceEqDiff,Nat.reduceLT,Nat.reduceBEq,mkF,mkG,Bool.and_true,Bool.true_and,Bool.and_false,Bool.false_and,beq_self_eq_true,mkC,Int.reduceToNat,Int.toNat_natCast,Int.reduceAdd,Int.reduceSub,Int.reduceMul,Nat.zero_add,Nat.add_zero,Nat.mul_one,and_true,true_and,Option.getD_some,Option.getD_none,ne_eq,not_true_eq_false,not_false_eq_true,decide_not,Bool.not_true,Bool.not_false,Int.reduceLT,Int.reduceLE,Int.reduceEq,Int.reduceNe,Int.reduceGT,Int.reduceGE,gt_iff_lt,ge_iff_le,Nat.reduceLT,Nat.reduceLeDiff,u32D,u8D,iD,bD,strD,jf7,jh5,jf5,jf3,jf6,je4,jf0,jh6,jg9,ja9,tyT,gtab,hX];exact rfl)):p:=h
theorem dz14 {p:Prop} (h:p:=by (simp only [jc0,implies_true,setD,bslF,jf8,je6,List.zip_cons_cons,List.zip_nil_right,List.zip_nil_left,jc1,rng0,rng1,rng2,rng3,rng4,rng5,rng6,rng7,rng8,List.getD_cons_zero,List.getD_cons_succ,Nat.reduceLeDiff,decide_true,decide_false,List.all_cons,List.all_nil,dqF,nilF,jh9,jc7,Op.operands,Call.operands,evD,cD,gip,upd,look,List.map,List.map_cons,List.map_nil,binF,binI,shI,binS,unF,wD,kLo,kHi,kMod,jh8,jh1,jh2,jg0,jf9,jg2,jg1,lenF,lenD,jf2,je9,minF,je7,cutL,bndF,sub,nc,aggT,aggB,scB,tnth,elems,L_B,L_mk,List.getElem?_cons_zero,List.getElem?_cons_succ,reduceIte,reduceCtorEq,Option.isSome,List.toList_toArray,Nat.reduceAdd,Nat.reduceSub,Nat.reduceMul,Nat.reduceEqDiff,Nat.reduceLT,Nat.reduceBEq,mkF,mkG,Bool.and_true,Bool.true_and,Bool.and_false,Bool.false_and,beq_self_eq_true,mkC,Int.reduceToNat,Int.toNat_natCast,Int.reduceAdd,Int.reduceSub,Int.reduceMul,Nat.zero_add,Nat.add_zero,Nat.mul_one,and_true,true_and,Option.getD_some,Option.getD_none,ne_eq,not_true_eq_false,not_false_eq_true,decide_not,Bool.not_true,Bool.not_false,Int.reduceLT,Int.reduceLE,Int.reduceEq,Int.reduceNe,Int.reduceGT,Int.reduceGE,gt_iff_lt,ge_iff_le,Nat.reduceLT,Nat.reduceLeDiff,hX];exact rfl)):p:=h
theorem dz15 {p:Prop} (h:p:=by (simp only [St.put,kilH,kil,kilB,List.map,List.set,List.length,List.nil_append,List.cons_append,List.append_nil,Option.map,jm5,setD,srcD,jc0,jc0,implies_true,setD,bslF,jf8,je6,List.zip_cons_cons,List.zip_nil_right,List.zip_nil_left,jc1,rng0,rng1,rng2,rng3,rng4,rng5,rng6,rng7,rng8,List.getD_cons_zero,List.getD_cons_succ,Nat.reduceLeDiff,decide_true,decide_false,List.all_cons,List.all_nil,dqF,nilF,jh9,jc7,Op.operands,Call.operands,evD,cD,gip,upd,look,List.map,List.map_cons,List.map_nil,binF,binI,shI,binS,unF,wD,kLo,kHi,kMod,jh8,jh1,jh2,jg0,jf9,jg2,jg1,lenF,lenD,jf2,je9,minF,je7,cutL,bndF,sub,nc,aggT,aggB,scB,tnth,elems,L_B,L_mk,List.getElem?_cons_zero,List.getElem?_cons_succ,reduceIte,reduceCtorEq,Option.isSome,List.toList_toArray,Nat.reduceAdd,Nat.reduceSub,Nat.reduceMul,Nat.reduceEqDiff,Nat.reduceLT,Nat.reduceBEq,mkF,mkG,Bool.and_true,Bool.true_and,Bool.and_false,Bool.false_and,beq_self_eq_true,mkC,Int.reduceToNat,Int.toNat_natCast,Int.reduceAdd,Int.reduceSub,Int.reduceMul,Nat.zero_add,Nat.add_zero,Nat.mul_one,and_true,true_and,Option.getD_some,Option.getD_none,ne_eq,not_true_eq_false,not_false_eq_true,decide_not,Bool.not_true,Bool.not_false,Int.reduceLT,Int.reduceLE,Int.reduceEq,Int.reduceNe,Int.reduceGT,Int.reduceGE,gt_iff_lt,ge_iff_le,Nat.reduceLT,Nat.reduceLeDiff,u32D,u8D,iD,bD,strD,jf7,jh5,jf5,jf3,jf6,je4,jf0,jh6,jg9,ja9,tyT,gtab,hX]<;>exact rfl)):p:=h
theorem jc4 {C:Cx}{ops:Array Oper}{K:St→Prop}{o:Oper}{rest:List Oper}{s:Nat→D}{h:List (Option Bk)}{p:Prop}{d:D} (t:Nat) (hg:o.guard=none) (hd:o.dst=some t) (ht':Nat.blt t C.n=true)
  (k:DR C ops K rest ⟨upd s t d,h⟩) (e:dqF C.T h o.op (jc7 C ⟨s,h⟩ o)=some (p,d):=by exact dz0) (hp:p:=by first|exact trivial|exact ⟨by simp,rfl⟩|exact qy2 _ _|exact qm6 _|omega|(simp only [L_B,bndF,Option.getD_some,Option.getD_none,List.length_drop,List.length_take]<;>omega)|(refine ⟨?_,fun _ _=>rfl⟩;(simp only [L_B,bndF,Option.getD_some,Option.getD_none,List.length_drop,List.length_take]<;>omega))):DR C ops K (o::rest) ⟨s,h⟩:=DR_q t hg hd ht' e hp k
theorem jb6 {E:Env}{C:Cx}{ops:Array Oper}{K:St→Prop}{o:Oper}{rest:List Oper}{s:Nat→D}{h:List (Option Bk)}{d:D}{f:FuncId}{g:Operand}{args:Array Operand}{ts:Array TypeId}{xs:List D} (t:Nat) (hE:EnvC E C) (hg:o.guard=none) (hd:o.dst=some t) (ht':Nat.blt t C.n=true)
  (ho:o.op = .call { callee:=.value g,args:=args,argTypes:=ts }) (hf:fnB C.P f=true)
  (k:DR C ops K rest ⟨upd s t d,h⟩) (e:jc7 C ⟨s,h⟩ o = .fn f .nil::xs:=by exact dz0) (hx:xs.all jc1=true:=by rfl) (hc:PC E f xs d):DR C ops K (o::rest) ⟨s,h⟩:=DR_c t hg hd ht' e (jj0 hE ho hf hx hc) k
theorem jn9 {C:Cx}{ops:Array Oper}{K:St→Prop}{o:Oper}{rest:List Oper}{s:Nat→D}{h:List (Option Bk)}{p:Prop}{d:D} (t:Nat) (hg:o.guard=none) (hd:o.dst=some t) (ht':Nat.blt t C.n=true)
  (k:DRq C ops K rest ⟨upd s t d,h⟩) (e:dqF C.T h o.op (jc7 C ⟨s,h⟩ o)=some (p,d):=by exact dz0) (hp:p:=by first|exact trivial|exact ⟨by simp,rfl⟩|exact qy2 _ _|exact qm6 _|omega|(simp only [L_B,bndF,Option.getD_some,Option.getD_none,List.length_drop,List.length_take]<;>omega)|(refine ⟨?_,fun _ _=>rfl⟩;(simp only [L_B,bndF,Option.getD_some,Option.getD_none,List.length_drop,List.length_take]<;>omega))):DRq C ops K (o::rest) ⟨s,h⟩:=qv5 t hg hd ht' e hp k
theorem jj4 {E:Env}{C:Cx}{ops:Array Oper}{K:St→Prop}{o:Oper}{rest:List Oper}{s:Nat→D}{h:List (Option Bk)}{d:D}{f:FuncId}{g:Operand}{args:Array Operand}{ts:Array TypeId}{xs:List D} (t:Nat) (hE:EnvC E C) (hg:o.guard=none) (hd:o.dst=some t) (ht':Nat.blt t C.n=true)
  (ho:o.op = .call { callee:=.value g,args:=args,argTypes:=ts }) (hf:fnB C.P f=true)
  (k:DRq C ops K rest ⟨upd s t d,h⟩) (e:jc7 C ⟨s,h⟩ o = .fn f .nil::xs:=by exact dz0) (hx:xs.all jc1=true:=by rfl) (hc:PC E f xs d):DRq C ops K (o::rest) ⟨s,h⟩:=km6 t hg hd ht' e (jj0 hE ho hf hx hc) k
theorem ja3 {C:Cx}{ops:Array Oper}{K:St→Prop}{o:Oper}{rest:List Oper}{st st' st'':St} (hg:o.guard=none) (hD:DO C o st st') (k:DR C ops K rest st'') (e:st'=st'':=by exact dz1):DR C ops K (o::rest) st:=DR_e hg hD e k
theorem jb1 {C:Cx}{o:Oper}{st:St}{t:Nat}{x y:Operand}{p:Prop}{h':List (Option Bk)} (ho:o.op = .store t x y) (hd:dstB C o=true) (hf:jm5 C.T st.h t (evD C st x) (evD C st y)=some (p,h'):=by exact dz2) (hp:p:=by first|exact trivial|exact ⟨by simp,rfl⟩|exact qy2 _ _|exact qm6 _|omega|(simp only [L_B,bndF,Option.getD_some,Option.getD_none,List.length_drop,List.length_take]<;>omega)|(refine ⟨?_,fun _ _=>rfl⟩;(simp only [L_B,bndF,Option.getD_some,Option.getD_none,List.length_drop,List.length_take]<;>omega))):DO C o st (St.put { st with h:=h' } o.dst .dead):=vh3 ho hd hf hp
theorem jb8 {C:Cx}{o:Oper}{st:St}{T:Nat}{x:Operand} (ho:o.op = .box T x) (hd:dstB C o=true) (hx:(aggB (evD C st x)||scB (evD C st x))=true:=by exact dz2):DO C o st (St.put { st with h:=st.h++[some (.one (evD C st x))] } o.dst (.ptr st.h.length 0)):=vz3 ho hd hx
theorem jb0 {C:Cx}{c:Code}{Q:Exit→St→Prop}{s:Nat→D}{h:List (Option Bk)} (live:List Nat) {l:List (Nat×D)} (k:DW C c Q (mk l h)) (e:pick s live=l:=by exact dz3):DW C c Q ⟨s,h⟩:=qq0 live e k
theorem pk1 {a b c:St} (k:b=c) (e:a=b:=by exact dz3):a=c:=e.trans k
theorem jd9 {E:Env}{C:Cx} (hE:EnvC E C) {o:Oper}{st:St}{f:FuncId}{args:Array Operand}{ts:Array TypeId}{l:Nat}{d0 d1 r:D}{xs:List D} (ho:o.op = .call { callee:=.value (.func f),args:=args,argTypes:=ts }) (hd:dstB C o=true) (hf:fnB C.P f=true)
  (hx:jc7 C st o = .fn f .nil::.ptr l 0::xs:=by exact dz0) (hp:xs.all jc1=true:=by rfl) (hl:st.h[l]?=some (some (.one d0)):=by exact dz0) (hp0:jc1 d0=true:=by rfl) (hc:PM E f d0 xs d1 r):DO C o st (St.put { st with h:=st.h.set l (some (.one d1)) } o.dst r):=qf3 hE ho hd hf hx hp hl hp0 hc
theorem jc5 {C:Cx}{ops:Array Oper}{K:St→Prop}{o o':Oper}{rest:List Oper}{s:Nat→D}{h:List (Option Bk)}{g u:Nat}{want:Bool} (hg:o.guard=some (g,want)) (hu:(ops[g]?).bind (·.dst)=some u)
  (k:DR C ops K (o'::rest) ⟨s,h⟩) (e:jo8 o=o':=by simp only [jo8];exact rfl) (hs:s u = .v (.bool want):=by exact dsk):DR C ops K (o::rest) ⟨s,h⟩:=by
 subst e
 exact DR_g hg hu hs k
theorem jn8 {C:Cx}{ops:Array Oper}{K:St→Prop}{o o':Oper}{rest:List Oper}{s:Nat→D}{h:List (Option Bk)}{g u:Nat}{want:Bool} (hg:o.guard=some (g,want)) (hu:(ops[g]?).bind (·.dst)=some u)
  (k:DRq C ops K (o'::rest) ⟨s,h⟩) (e:jo8 o=o':=by simp only [jo8];exact rfl) (hs:s u = .v (.bool want):=by exact dsk):DRq C ops K (o::rest) ⟨s,h⟩:=by
 subst e
 exact vo6 hg hu hs k
theorem jb7 {C:Cx}{ops:Array Oper}{K:St→Prop}{o:Oper}{rest:List Oper}{s:Nat→D}{h:List (Option Bk)}{g u t:Nat}{want:Bool} (hg:o.guard=some (g,want)) (hu:(ops[g]?).bind (·.dst)=some u) (hd:o.dst=some t) (ht':Nat.blt t C.n=true)
  (k:DR C ops K rest ⟨upd s t unD,h⟩) (hs:s u = .v (.bool (!want)):=by exact dz4):DR C ops K (o::rest) ⟨s,h⟩:=qp9 hg hu hd ht' hs k
theorem jj5 {C:Cx}{ops:Array Oper}{K:St→Prop}{o:Oper}{rest:List Oper}{s:Nat→D}{h:List (Option Bk)}{g u t:Nat}{want:Bool} (hg:o.guard=some (g,want)) (hu:(ops[g]?).bind (·.dst)=some u) (hd:o.dst=some t) (ht':Nat.blt t C.n=true)
  (k:DRq C ops K rest ⟨upd s t unD,h⟩) (hs:s u = .v (.bool (!want)):=by exact dz4):DRq C ops K (o::rest) ⟨s,h⟩:=qf5 hg hu hd ht' hs k
theorem jb9 {C:Cx}{ops:Array Oper}{K:St→Prop}{o:Oper}{rest:List Oper}{s:Nat→D}{h:List (Option Bk)}{op:BinOp}{ty u:Nat}{x y:Operand}{a b d:D} (t:Nat) (hg:o.guard=none) (hd:o.dst=some t) (ht':Nat.blt t C.n=true) (ho:o.op = .binOp op ty x y u)
  (k:DR C ops K rest ⟨upd s t d,h⟩) (hm:C.P.eqGuardType C.P.depth ty=false:=by kernel_rfl) (e:jc7 C ⟨s,h⟩ o=[a,b]:=by exact dsd) (hf:eqaF C.T op ty a b=some d:=by exact dz5):DR C ops K (o::rest) ⟨s,h⟩:=DR_c t hg hd ht' e (qz0 ho hm hf) k
theorem jj9 {C:Cx}{ops:Array Oper}{K:St→Prop}{o:Oper}{rest:List Oper}{s:Nat→D}{h:List (Option Bk)}{op:BinOp}{ty u:Nat}{x y:Operand}{a b d:D} (t:Nat) (hg:o.guard=none) (hd:o.dst=some t) (ht':Nat.blt t C.n=true) (ho:o.op = .binOp op ty x y u)
  (k:DRq C ops K rest ⟨upd s t d,h⟩) (hm:C.P.eqGuardType C.P.depth ty=false:=by kernel_rfl) (e:jc7 C ⟨s,h⟩ o=[a,b]:=by exact dsd) (hf:eqaF C.T op ty a b=some d:=by exact dz5):DRq C ops K (o::rest) ⟨s,h⟩:=km6 t hg hd ht' e (qz0 ho hm hf) k
theorem jc6 {C:Cx}{ops:Array Oper}{K:St→Prop}{o:Oper}{rest:List Oper}{s:Nat→D}{h:List (Option Bk)}{p:Prop}{d:D} (t:Nat) (hg:o.guard=none) (hd:o.dst=some t) (ht':Nat.blt t C.n=true)
  (k:DR C ops K rest ⟨upd s t d,h⟩) (e:dqF C.T h o.op (jc7 C ⟨s,h⟩ o)=some (p,d):=by exact dsd) (hp:p:=by first|exact trivial|omega|(simp only [L_B,L_mk,bndF,Option.getD_some,Option.getD_none,List.length_cons,List.length_nil,List.length_append,List.length_map,List.length_range,List.length_drop,List.length_take,List.length_replicate,hX]<;>omega)|(intro d hd;simp only [List.mem_map] at hd;obtain ⟨i,_,rfl⟩:=hd;trivial)):DR C ops K (o::rest) ⟨s,h⟩:=DR_q t hg hd ht' e hp k
theorem jo0 {C:Cx}{ops:Array Oper}{K:St→Prop}{o:Oper}{rest:List Oper}{s:Nat→D}{h:List (Option Bk)}{p:Prop}{d:D} (t:Nat) (hg:o.guard=none) (hd:o.dst=some t) (ht':Nat.blt t C.n=true)
  (k:DRq C ops K rest ⟨upd s t d,h⟩) (e:dqF C.T h o.op (jc7 C ⟨s,h⟩ o)=some (p,d):=by exact dsd) (hp:p:=by first|exact trivial|omega|(simp only [L_B,L_mk,bndF,Option.getD_some,Option.getD_none,List.length_cons,List.length_nil,List.length_append,List.length_map,List.length_range,List.length_drop,List.length_take,List.length_replicate,hX]<;>omega)|(intro d hd;simp only [List.mem_map] at hd;obtain ⟨i,_,rfl⟩:=hd;trivial)):DRq C ops K (o::rest) ⟨s,h⟩:=qv5 t hg hd ht' e hp k
theorem ju6 {C:Cx}{o:Oper}{st:St}{s x:Operand}{t u el sz l n:Nat}{e:TE}{L es:List D}{p:Prop} (ho:o.op = .call { callee:=.builtin .append,args:=#[s,x],argTypes:=#[t,u] }) (hd:dstB C o=true) (hT:appT C t u el sz e) (hfx:C.fx l=none)
  (hs:evD C st s = .own l n el sz:=by exact dse) (hl:st.h[l]?=some (some (.row L el sz)):=by exact dse) (hx:srcD st.h (evD C st x)=some (p,es):=by exact dse) (hn:n=L.length:=by first|exact trivial|omega|(intro d hd;simp only [List.mem_cons,List.not_mem_nil,or_false,List.mem_map] at hd;rcases hd with rfl|⟨_,_,rfl⟩<;>exact ⟨rfl,rfl⟩)|(intro d hd;simp only [List.mem_cons,List.not_mem_nil,or_false,List.mem_map] at hd;rcases hd with rfl<;>exact ⟨rfl,rfl⟩)|(intro d hd;simp only [List.mem_cons,List.not_mem_nil,or_false] at hd;rcases hd with rfl|rfl<;>exact ⟨rfl,rfl⟩)|(intro d hd;simp only [List.mem_map] at hd;obtain ⟨_,_,rfl⟩:=hd;exact ⟨rfl,rfl⟩)|(simp only [L_B,List.length_append,List.length_cons,List.length_nil,List.length_map,List.length_replicate,List.length_range,hX]<;>omega)|rfl) (hp:p:=by first|exact trivial|omega|(intro d hd;simp only [List.mem_cons,List.not_mem_nil,or_false,List.mem_map] at hd;rcases hd with rfl|⟨_,_,rfl⟩<;>exact ⟨rfl,rfl⟩)|(intro d hd;simp only [List.mem_cons,List.not_mem_nil,or_false,List.mem_map] at hd;rcases hd with rfl<;>exact ⟨rfl,rfl⟩)|(intro d hd;simp only [List.mem_cons,List.not_mem_nil,or_false] at hd;rcases hd with rfl|rfl<;>exact ⟨rfl,rfl⟩)|(intro d hd;simp only [List.mem_map] at hd;obtain ⟨_,_,rfl⟩:=hd;exact ⟨rfl,rfl⟩)|(simp only [L_B,List.length_append,List.length_cons,List.length_nil,List.length_map,List.length_replicate,List.length_range,hX]<;>omega)|rfl) (hpure:∀d ∈ es,jc1 d=true∧nc d=sz:=by first|exact trivial|omega|(intro d hd;simp only [List.mem_cons,List.not_mem_nil,or_false,List.mem_map] at hd;rcases hd with rfl|⟨_,_,rfl⟩<;>exact ⟨rfl,rfl⟩)|(intro d hd;simp only [List.mem_cons,List.not_mem_nil,or_false,List.mem_map] at hd;rcases hd with rfl<;>exact ⟨rfl,rfl⟩)|(intro d hd;simp only [List.mem_cons,List.not_mem_nil,or_false] at hd;rcases hd with rfl|rfl<;>exact ⟨rfl,rfl⟩)|(intro d hd;simp only [List.mem_map] at hd;obtain ⟨_,_,rfl⟩:=hd;exact ⟨rfl,rfl⟩)|(simp only [L_B,List.length_append,List.length_cons,List.length_nil,List.length_map,List.length_replicate,List.length_range,hX]<;>omega)|rfl) (hb:(L.length+es.length)*e.bytes≤140737488355328:=by first|exact trivial|omega|(intro d hd;simp only [List.mem_cons,List.not_mem_nil,or_false,List.mem_map] at hd;rcases hd with rfl|⟨_,_,rfl⟩<;>exact ⟨rfl,rfl⟩)|(intro d hd;simp only [List.mem_cons,List.not_mem_nil,or_false,List.mem_map] at hd;rcases hd with rfl<;>exact ⟨rfl,rfl⟩)|(intro d hd;simp only [List.mem_cons,List.not_mem_nil,or_false] at hd;rcases hd with rfl|rfl<;>exact ⟨rfl,rfl⟩)|(intro d hd;simp only [List.mem_map] at hd;obtain ⟨_,_,rfl⟩:=hd;exact ⟨rfl,rfl⟩)|(simp only [L_B,List.length_append,List.length_cons,List.length_nil,List.length_map,List.length_replicate,List.length_range,hX]<;>omega)|rfl) :
  DO C o st (St.put ⟨fun t=>kil l (st.s t),(kilH l st.h).set l (some (.row (L++es) el sz))⟩ o.dst (.own l (n+es.length) el sz)):=ks0 ho hd hT hfx hs hl hx hn hp hpure hb
theorem jp4 {C:Cx}{o:Oper}{st:St}{s x:Operand}{t u el sz:Nat}{e:TE}{es:List D}{p:Prop} (ho:o.op = .call { callee:=.builtin .append,args:=#[s,x],argTypes:=#[t,u] }) (hd:dstB C o=true) (hT:appT C t u el sz e)
  (hs:evD C st s = .v (.slice none 0 0):=by exact dse) (hx:srcD st.h (evD C st x)=some (p,es):=by exact dse) (hp:p:=by first|exact trivial|omega|(intro d hd;simp only [List.mem_cons,List.not_mem_nil,or_false,List.mem_map] at hd;rcases hd with rfl|⟨_,_,rfl⟩<;>exact ⟨rfl,rfl⟩)|(intro d hd;simp only [List.mem_cons,List.not_mem_nil,or_false,List.mem_map] at hd;rcases hd with rfl<;>exact ⟨rfl,rfl⟩)|(intro d hd;simp only [List.mem_cons,List.not_mem_nil,or_false] at hd;rcases hd with rfl|rfl<;>exact ⟨rfl,rfl⟩)|(intro d hd;simp only [List.mem_map] at hd;obtain ⟨_,_,rfl⟩:=hd;exact ⟨rfl,rfl⟩)|(simp only [L_B,List.length_append,List.length_cons,List.length_nil,List.length_map,List.length_replicate,List.length_range,hX]<;>omega)|rfl) (hpure:∀d ∈ es,jc1 d=true∧nc d=sz:=by first|exact trivial|omega|(intro d hd;simp only [List.mem_cons,List.not_mem_nil,or_false,List.mem_map] at hd;rcases hd with rfl|⟨_,_,rfl⟩<;>exact ⟨rfl,rfl⟩)|(intro d hd;simp only [List.mem_cons,List.not_mem_nil,or_false,List.mem_map] at hd;rcases hd with rfl<;>exact ⟨rfl,rfl⟩)|(intro d hd;simp only [List.mem_cons,List.not_mem_nil,or_false] at hd;rcases hd with rfl|rfl<;>exact ⟨rfl,rfl⟩)|(intro d hd;simp only [List.mem_map] at hd;obtain ⟨_,_,rfl⟩:=hd;exact ⟨rfl,rfl⟩)|(simp only [L_B,List.length_append,List.length_cons,List.length_nil,List.length_map,List.length_replicate,List.length_range,hX]<;>omega)|rfl) (hb:es.length*e.bytes≤140737488355328:=by first|exact trivial|omega|(intro d hd;simp only [List.mem_cons,List.not_mem_nil,or_false,List.mem_map] at hd;rcases hd with rfl|⟨_,_,rfl⟩<;>exact ⟨rfl,rfl⟩)|(intro d hd;simp only [List.mem_cons,List.not_mem_nil,or_false,List.mem_map] at hd;rcases hd with rfl<;>exact ⟨rfl,rfl⟩)|(intro d hd;simp only [List.mem_cons,List.not_mem_nil,or_false] at hd;rcases hd with rfl|rfl<;>exact ⟨rfl,rfl⟩)|(intro d hd;simp only [List.mem_map] at hd;obtain ⟨_,_,rfl⟩:=hd;exact ⟨rfl,rfl⟩)|(simp only [L_B,List.length_append,List.length_cons,List.length_nil,List.length_map,List.length_replicate,List.length_range,hX]<;>omega)|rfl) :
  DO C o st (St.put ⟨st.s,st.h++[some (.row es el sz)]⟩ o.dst (.own st.h.length es.length el sz)):=qd9 ho hd hT hs hx hp hpure hb
theorem qf4 {C:Cx}{o:Oper}{st:St}{s t el:Nat}{x:Operand}{str:ByteArray} (ho:o.op = .convert s t x) (hd:dstB C o=true) (hS:kk3 C.T s=true) (hT:kd0 C.T t=some el) (hx:evD C st x = .v (.string str):=by exact dse) (hb:(L str).length≤140737488355328:=by first|exact trivial|omega|(intro d hd;simp only [List.mem_cons,List.not_mem_nil,or_false,List.mem_map] at hd;rcases hd with rfl|⟨_,_,rfl⟩<;>exact ⟨rfl,rfl⟩)|(intro d hd;simp only [List.mem_cons,List.not_mem_nil,or_false,List.mem_map] at hd;rcases hd with rfl<;>exact ⟨rfl,rfl⟩)|(intro d hd;simp only [List.mem_cons,List.not_mem_nil,or_false] at hd;rcases hd with rfl|rfl<;>exact ⟨rfl,rfl⟩)|(intro d hd;simp only [List.mem_map] at hd;obtain ⟨_,_,rfl⟩:=hd;exact ⟨rfl,rfl⟩)|(simp only [L_B,List.length_append,List.length_cons,List.length_nil,List.length_map,List.length_replicate,List.length_range,hX]<;>omega)|rfl) :
  DO C o st (St.put ⟨st.s,st.h++[some (.row ((L str).map jc0) el 1)]⟩ o.dst (.own st.h.length (L str).length el 1)):=qo0 ho hd hS hT hx hb
section
variable {C:Cx}{ops:Array Oper}{K:St→Prop}{o o':Oper}{rest:List Oper}{s:Nat→D}{h:List (Option Bk)}{p:Prop}{d:D}
theorem qx (t:Nat) (hg:o.guard=none) (hd:o.dst=some t) (ht':Nat.blt t C.n=true) (k:DR C ops K rest ⟨upd s t d,h⟩) (e:dqF C.T h o.op (jc7 C ⟨s,h⟩ o)=some (p,d):=by exact dsx)
  (hp:p:=by (repeat' (with_reducible apply And.intro))<;>first|(with_reducible exact True.intro)|omega|exact lnx|(intro d hd;simp only [List.mem_cons,List.not_mem_nil,or_false] at hd;(first|(subst hd;first|trivial|exact ⟨rfl,rfl⟩)|(rcases hd with rfl|rfl<;>first|trivial|exact ⟨rfl,rfl⟩)|(rcases hd with rfl|rfl|rfl<;>first|trivial|exact ⟨rfl,rfl⟩)|(rcases hd with rfl|rfl|rfl|rfl<;>first|trivial|exact ⟨rfl,rfl⟩)|(rcases hd with rfl|rfl|rfl|rfl|rfl<;>first|trivial|exact ⟨rfl,rfl⟩)|(rcases hd with rfl|rfl|rfl|rfl|rfl|rfl<;>first|trivial|exact ⟨rfl,rfl⟩)|(rcases hd with rfl|rfl|rfl|rfl|rfl|rfl|rfl<;>first|trivial|exact ⟨rfl,rfl⟩)|(rcases hd with rfl|rfl|rfl|rfl|rfl|rfl|rfl|rfl<;>first|trivial|exact ⟨rfl,rfl⟩)|(rcases hd with rfl|rfl|rfl|rfl|rfl|rfl|rfl|rfl|rfl<;>first|trivial|exact ⟨rfl,rfl⟩)))|(intro d hd;simp only [List.mem_map,List.mem_cons,List.not_mem_nil,or_false] at hd;obtain ⟨i,_,rfl⟩:=hd;first|trivial|exact ⟨rfl,rfl⟩)|(intro d hd;simp only [List.mem_append,List.mem_map,List.mem_cons,List.not_mem_nil,or_false] at hd;rcases hd with ⟨i,_,rfl⟩|rfl<;>first|trivial|exact ⟨rfl,rfl⟩)|(intro i hi;rfl)|rfl):DR C ops K (o::rest) ⟨s,h⟩:=DR_q t hg hd ht' e hp k
theorem qxq (t:Nat) (hg:o.guard=none) (hd:o.dst=some t) (ht':Nat.blt t C.n=true) (k:DRq C ops K rest ⟨upd s t d,h⟩) (e:dqF C.T h o.op (jc7 C ⟨s,h⟩ o)=some (p,d):=by exact dsx)
  (hp:p:=by (repeat' (with_reducible apply And.intro))<;>first|(with_reducible exact True.intro)|omega|exact lnx|(intro d hd;simp only [List.mem_cons,List.not_mem_nil,or_false] at hd;(first|(subst hd;first|trivial|exact ⟨rfl,rfl⟩)|(rcases hd with rfl|rfl<;>first|trivial|exact ⟨rfl,rfl⟩)|(rcases hd with rfl|rfl|rfl<;>first|trivial|exact ⟨rfl,rfl⟩)|(rcases hd with rfl|rfl|rfl|rfl<;>first|trivial|exact ⟨rfl,rfl⟩)|(rcases hd with rfl|rfl|rfl|rfl|rfl<;>first|trivial|exact ⟨rfl,rfl⟩)|(rcases hd with rfl|rfl|rfl|rfl|rfl|rfl<;>first|trivial|exact ⟨rfl,rfl⟩)|(rcases hd with rfl|rfl|rfl|rfl|rfl|rfl|rfl<;>first|trivial|exact ⟨rfl,rfl⟩)|(rcases hd with rfl|rfl|rfl|rfl|rfl|rfl|rfl|rfl<;>first|trivial|exact ⟨rfl,rfl⟩)|(rcases hd with rfl|rfl|rfl|rfl|rfl|rfl|rfl|rfl|rfl<;>first|trivial|exact ⟨rfl,rfl⟩)))|(intro d hd;simp only [List.mem_map,List.mem_cons,List.not_mem_nil,or_false] at hd;obtain ⟨i,_,rfl⟩:=hd;first|trivial|exact ⟨rfl,rfl⟩)|(intro d hd;simp only [List.mem_append,List.mem_map,List.mem_cons,List.not_mem_nil,or_false] at hd;rcases hd with ⟨i,_,rfl⟩|rfl<;>first|trivial|exact ⟨rfl,rfl⟩)|(intro i hi;rfl)|rfl):DRq C ops K (o::rest) ⟨s,h⟩:=qv5 t hg hd ht' e hp k
theorem cx {E:Env}{f:FuncId}{g:Operand}{args:Array Operand}{ts:Array TypeId}{xs:List D} (t:Nat) (hE:EnvC E C) (hg:o.guard=none) (hd:o.dst=some t) (ht':Nat.blt t C.n=true)
  (ho:o.op = .call { callee:=.value g,args:=args,argTypes:=ts }) (hf:fnB C.P f=true)
  (k:DR C ops K rest ⟨upd s t d,h⟩) (e:jc7 C ⟨s,h⟩ o = .fn f .nil::xs:=by exact dsa) (hx:xs.all jc1=true:=by rfl) (hc:PC E f xs d):DR C ops K (o::rest) ⟨s,h⟩:=DR_c t hg hd ht' e (jj0 hE ho hf hx hc) k
theorem cxq {E:Env}{f:FuncId}{g:Operand}{args:Array Operand}{ts:Array TypeId}{xs:List D} (t:Nat) (hE:EnvC E C) (hg:o.guard=none) (hd:o.dst=some t) (ht':Nat.blt t C.n=true)
  (ho:o.op = .call { callee:=.value g,args:=args,argTypes:=ts }) (hf:fnB C.P f=true)
  (k:DRq C ops K rest ⟨upd s t d,h⟩) (e:jc7 C ⟨s,h⟩ o = .fn f .nil::xs:=by exact dsa) (hx:xs.all jc1=true:=by rfl) (hc:PC E f xs d):DRq C ops K (o::rest) ⟨s,h⟩:=km6 t hg hd ht' e (jj0 hE ho hf hx hc) k
theorem ex {st st' st'':St} (hg:o.guard=none) (hD:DO C o st st') (k:DR C ops K rest st'') (e:st'=st'':=by exact dz1):DR C ops K (o::rest) st:=DR_e hg hD e k
theorem kl1 {live:List Nat}{K:St→Prop}{l:List (Nat×D)} (k:K (mk l h)) (e:pick s live=l:=by exact dz6):KL live K ⟨s,h⟩:=fun l' hl=>by
 have:l'=l:=by rw [← hl];exact e
 rw [this];exact k
theorem gtx {g u:Nat}{want:Bool} (hg:o.guard=some (g,want)) (hu:(ops[g]?).bind (·.dst)=some u) (k:DR C ops K (o'::rest) ⟨s,h⟩) (e:jo8 o=o':=by simp only [jo8];exact rfl) (hs:s u = .v (.bool want):=by exact dsh):DR C ops K (o::rest) ⟨s,h⟩:=by
 subst e
 exact DR_g hg hu hs k
theorem gtxq {g u:Nat}{want:Bool} (hg:o.guard=some (g,want)) (hu:(ops[g]?).bind (·.dst)=some u) (k:DRq C ops K (o'::rest) ⟨s,h⟩) (e:jo8 o=o':=by simp only [jo8];exact rfl) (hs:s u = .v (.bool want):=by exact dsh):DRq C ops K (o::rest) ⟨s,h⟩:=by
 subst e
 exact vo6 hg hu hs k
theorem skx {g u t:Nat}{want:Bool} (hg:o.guard=some (g,want)) (hu:(ops[g]?).bind (·.dst)=some u) (hd:o.dst=some t) (ht':Nat.blt t C.n=true) (k:DR C ops K rest ⟨upd s t unD,h⟩) (hs:s u = .v (.bool (!want)):=by exact dsh):DR C ops K (o::rest) ⟨s,h⟩:=qp9 hg hu hd ht' hs k
theorem skxq {g u t:Nat}{want:Bool} (hg:o.guard=some (g,want)) (hu:(ops[g]?).bind (·.dst)=some u) (hd:o.dst=some t) (ht':Nat.blt t C.n=true) (k:DRq C ops K rest ⟨upd s t unD,h⟩) (hs:s u = .v (.bool (!want)):=by exact dsh):DRq C ops K (o::rest) ⟨s,h⟩:=qf5 hg hu hd ht' hs k
theorem wa0 {g u t:Nat}{want:Bool} (hg:o.guard=some (g,want)) (hu:(ops[g]?).bind (·.dst)=some u) (hd:o.dst=some t) (ht':Nat.blt t C.n=true)
  (k:DR C ops K rest ⟨upd s t unD,h⟩) (hs:s u=unD:=by exact dsh):DR C ops K (o::rest) ⟨s,h⟩:=by
 refine .inr ⟨by simp [jl7,hg,hu,hs,unD],by simp only [dstB,hd];simpa using ht',?_⟩
 simp only [St.put,hd]
 exact k
theorem vq9 {g u t:Nat}{want:Bool} (hg:o.guard=some (g,want)) (hu:(ops[g]?).bind (·.dst)=some u) (hd:o.dst=some t) (ht':Nat.blt t C.n=true)
  (k:DRq C ops K rest ⟨upd s t unD,h⟩) (hs:s u=unD:=by exact dsh):DRq C ops K (o::rest) ⟨s,h⟩:=by
 refine ⟨unD,by simp only [dstB,hd];simpa using ht',.inr ⟨by simp [jl7,hg,hu,hs,unD],rfl⟩,?_⟩
 simp only [St.put,hd]
 exact k
end
theorem ka2 {E:Env}{n:Nat}{pins:List Nat}{γ:Type 1}{M:Md E n pins γ}{r:Option Nat}{c:Code}{Q:Exit→γ→St→Prop}{g:γ}{l l':List (Nat×D)}{h:List (Option Bk)} (e:l=l') (k:DX M r c Q g (mk l' h)):DX M r c Q g (mk l h):=by subst e;exact k

def frzD (h:List (Option Bk)):D→D
 | .ptr l o=>match h[l]? with
  | some (some (.one d))=>if o=0∧jc1 d=true then .ip d else .dead
  | _=>.dead
 | .own _ _ _ _=>.dead
 | .osl _ _ _=>.dead
 | .cons a b=>.cons (frzD h a) (frzD h b)
 | .tup ps=>.tup (frzD h ps)
 | .fn f caps=>.fn f (frzD h caps)
 | d=>d
theorem qj5 (h:List (Option Bk)) (d:D):nc (frzD h d)=nc d:=by
 induction d with
 | cons a b ih1 ih2=>simp only [frzD,nc,ih1,ih2]
 | ptr l o=>simp only [frzD];split<;>(try split)<;>rfl
 | _=>rfl
theorem qh2 (h:List (Option Bk)) (d:D):∀i,cell (frzD h d) i=frzD h (cell d i):=by
 induction d with
 | cons a b ih1 ih2 =>
  intro i
  simp only [frzD,cell,qj5]
  split
  ·exact ih1 i
  ·exact ih2 _
 | ptr l o=>intro i;simp only [frzD,cell];split<;>(try split)<;>rfl
 | arr=>intro i;rfl
 | nil=>intro i;rfl
 | _=>intro i;rfl
theorem RI.frz {w:World}{S:Nat→Prop}{x:Value}{d:D} (h:List (Option Bk)) (k:RI w S x d):RI w S x (frzD h d):=by
 induction k with
 | fn hn _ ih=>exact .fn (by rw [qj5];exact hn) fun i hi=>by rw [qh2];exact ih i hi
 | v h=>exact .v h
 | sl0=>exact .sl0
 | sl sz xs hb hcap hs hx hc _=>exact .sl sz xs hb hcap hs hx hc
 | ip xs hb hx hc _=>exact .ip xs hb hx hc
 | dead h=>exact .dead h
 | pr h k=>exact .pr h k
abbrev FS (C:Cx) (w:World):Nat→Prop:=fun b=>(C.A b∨C.w0.heap.size≤b)∧b<w.heap.size
theorem vx8 {C:Cx}{h:List (Option Bk)}{bs:List (Option Nat)}{w:World} (hS0:∀b,b<C.w0.heap.size→C.S0 b) (hw:WR C h bs w) {i b:Nat} (hi:bs[i]?=some (some b)):FS C w b :=
 ⟨.inr (Nat.le_of_not_lt fun hlt=>(hw.ok i b hi).2 (hS0 b hlt)),(hw.ok i b hi).1⟩
theorem R1.frz {C:Cx}{h:List (Option Bk)}{bs:List (Option Nat)}{w:World} (hS0:∀b,b<C.w0.heap.size→C.S0 b) (hw:WR C h bs w) {x:Value}{d:D} (k:R1 C w bs x d):RI w (FS C w) x (frzD h d):=by
 induction k with
 | im k=>exact (k.mono fun b hb=>⟨⟨hb.1,hb.2.1⟩,rfl⟩).frz h
 | @ptr l o b hb =>
  simp only [frzD]
  split
  ·rename_i d hd
   split
   ·rename_i hp
    obtain ⟨rfl,hp⟩:=hp
    obtain ⟨cs,T,fz,h1,h2,h3,h4⟩:=hw.at hd hb
    refine .ip (fun j=>cs.getD j undef) (vx8 hS0 hw hb) (fun j hj=>?_) (fun j hj=>?_)
    ·have hj':j<cs.size:=by omega
     simp [World.cell?,h1,Array.getD_eq_getD_getElem?,hj']
    ·have hj':j<cs.size:=by omega
     have:=(h4 j hj').pure (jk6 hp j)
     simpa [Array.getD_eq_getD_getElem?,hj'] using this.mono fun b hb=>⟨⟨hb.1,hb.2.1⟩,rfl⟩
   ·exact .dead rfl
  ·exact .dead rfl
 | own=>exact .dead rfl
 | own0=>exact .dead rfl
 | osl0=>exact .dead rfl
 | osl=>exact .dead rfl
 | fn hn _ ih=>exact .fn (by rw [qj5];exact hn) fun i hi=>by rw [qh2];exact ih i hi
def Fin1 (h:List (Option Bk)) (r d:D):Prop:=∀(C:Cx) (w:World) (bs:List (Option Nat)) (x:Value),(∀b,b<C.w0.heap.size→C.S0 b)→WR C h bs w→R1 C w bs x r→RI w (FS C w) x d
theorem vi7 {h:List (Option Bk)}{r d:D} (e:frzD h r=d):Fin1 h r d:=fun _ _ _ _ hS0 hw hx=>by subst e;exact hx.frz hS0 hw
theorem qz6 {h:List (Option Bk)}{d:D} (hp:jc1 d=true):Fin1 h d d:=fun _ _ _ _ _ _ hx=>(hx.pure hp).mono fun b hb=>⟨⟨hb.1,hb.2.1⟩,rfl⟩
theorem vr9 {h:List (Option Bk)}{r d:D} (hr:scB r=true) (hd:scB d=true) (k:Fin h r d):Fin1 h r d:=fun C w bs x hS0 hw hx=>(jr1 hd).1 (k C w bs x hS0 hw ((jr1 hr).2 hx))
theorem vs5 {h:List (Option Bk)}{r d:D} (hr:scB r=true) (hd:scB d=true) (k:Fin1 h r d):Fin h r d:=fun C w bs x hS0 hw hx=>(jr1 hd).2 (k C w bs x hS0 hw ((jr1 hr).1 hx))
theorem km9 {h:List (Option Bk)}{r d:D} (hr:scB r=true) (hd:scB d=true) (e:frzD h r=d):Fin h r d:=vs5 hr hd (vi7 e)
theorem vs4 {h:List (Option Bk)}{r d:D} (hr:aggB r=true) (hd:aggB d=true) (hn:nc r=nc d) (hc:∀i,i<nc d→Fin1 h (cell r i) (cell d i)):Fin h r d:=fun C w bs x hS0 hw hx=>by
 have key:∃cs:Array Value,x = .agg cs∧cs.size=nc r∧∀i (hi:i<cs.size),R1 C w bs cs[i] (cell r i):=by
  cases r<;>simp only [aggB] at hr<;>try (cases hr;done)
  ·exact hx
  ·obtain ⟨cs,a,b⟩:=hx;exact ⟨cs,a,b,fun i hi=>by omega⟩
  ·exact hx
 obtain ⟨cs,h1,h2,h3⟩:=key
 have h4:∀i (hi:i<cs.size),RI w (FS C w) cs[i] (cell d i):=fun i hi=>hc i (by omega) C w bs _ hS0 hw (h3 i hi)
 cases d<;>simp only [aggB] at hd<;>try (cases hd;done)
 ·exact ⟨cs,h1,h2.trans hn,h4⟩
 ·exact ⟨cs,h1,h2.trans hn⟩
 ·exact ⟨cs,h1,h2.trans hn,h4⟩
inductive FinT (h:List (Option Bk)):D→D→Prop
 | nil:FinT h .nil .nil
 | cons {r d rs ds} (hr:js0 r=true) (hd:js0 d=true) (k:Fin h r d) (t:FinT h rs ds):FinT h (.cons r rs) (.cons d ds)
theorem jo6 {h:List (Option Bk)}{rs ds:D} (k:FinT h rs ds):Fin h (.tup rs) (.tup ds):=fun C w bs x hS0 hw hx=>by
 obtain ⟨vs,h1,h2⟩:=hx
 refine ⟨vs,h1,?_⟩
 clear h1
 generalize vs.toList=l at *
 induction k generalizing l with
 | nil=>cases l with|nil=>trivial|cons a b=>exact h2.elim
 | @cons r d rs ds hr hd k t ih =>
  cases l with
  | nil=>exact h2.elim
  | cons a b =>
   obtain ⟨p1,p2⟩:=h2
   have h3:RV C w bs a r:=by cases r<;>first|exact p1|(cases hr;done)
   exact ⟨jr3 hd (k C w bs a hS0 hw h3),ih b p2⟩

theorem WR.refz {C:Cx}{h:List (Option Bk)}{bs:List (Option Nat)}{w w':World} (hw:WR C h bs w) {l b:Nat} (hb:bs[l]?=some (some b)) {cs:Array Value}{T:TypeId}{fz fz':Nat×Nat} (hg:w.heap[b]?=some (.cells cs T fz)) (hg':w'.heap[b]?=some (.cells cs T fz')) (hu:ka1 fz' cs.size) (h1z:∀L T' sz,h[l]?=some (some (.row L T' sz))→sz=1)
  (ho:w'.os=w.os∧w'.tape=w.tape∧w'.output=w.output∧w'.heap.size=w.heap.size) (hne:∀b',b'≠b→w'.heap[b']?=w.heap[b']?):WR C h bs w'∧Ext C w bs w' bs:=by
 obtain ⟨o1,o2,o3,o4⟩:=ho
 have hsh:∀b',w'.shape? b'=w.shape? b':=fun b'=>by
  by_cases e:b'=b
  ·subst e;unfold World.shape?;rw [hg,hg']
  ·exact jg4 (hne b' e)
 have hE:Ext C w bs w' bs:=⟨fun b' hb'=>⟨⟨hb'.1,by rw [o4];exact hb'.2.1,hb'.2.2⟩,hne b' fun e=>hb'.2.2 l (by rw [e];exact hb)⟩,fun i b' hi=>⟨hi,hsh b'⟩⟩
 refine ⟨⟨hw.len,hw.inj,fun i b' hi=>⟨by rw [o4];exact (hw.ok i b' hi).1,(hw.ok i b' hi).2⟩,fun i k hk=>?_,?_,hw.gl,hw.g0,hw.tok,hw.mix,hw.s0,fun i b' hi=>⟨(hw.fix i b' hi).1,(hsh b').trans (hw.fix i b' hi).2⟩⟩,hE⟩
 ·rcases hw.blk i k hk with ⟨b',hb',hB⟩|h0
  ·refine .inl ⟨b',hb',?_⟩
   by_cases e:b'=b
   ·subst e
    cases k with
    | one d =>
     obtain ⟨cs',T',fz0,h1,h2,h3,h4⟩:=hB
     rw [hg] at h1
     cases h1
     exact ⟨cs,T,fz',hg',h2,hu,fun i hi=>(h4 i hi).ext hE⟩
    | row L T' sz =>
     obtain ⟨cs',fz0,h1,h2,h3,h4,h5⟩:=hB
     rw [hg] at h1
     cases h1
     have e1:=hw.inj i l _ hb' hb
     subst e1
     exact ⟨cs,fz',hg',h2,⟨hu,fun hne=>absurd (h1z _ _ _ hk) hne⟩,h4,fun i j hi hj=>let ⟨x,hx,hr⟩:=h5 i j hi hj;⟨x,hx,hr.mono hE.im⟩⟩
   ·exact hB.ext hE (hne b' e)
  ·exact .inr h0
 ·have hf:=hw.fr
  exact ⟨o1.trans hf.os,o2.trans hf.tape,o3.trans hf.output,by rw [o4];exact hf.size,fun b' hb'=>(hne b' fun e=>(hw.ok l b hb).2 (by rw [← e];exact hb')).trans (hf.block b' hb')⟩
theorem qy7 {C:Cx}{o:Oper}{st:St}{t el l n:Nat}{L:List D}{x:Operand} (ho:o.op = .convert t t x) (hd:dstB C o=true) (hT:kd0 C.T t=some el) (hx:evD C st x = .own l n el 1) (hn:0<n) (hl:st.h[l]?=some (some (.row L el 1))):DO C o st (St.put st o.dst (.own l n el 1)):=by
 intro bs a w hr
 have hxv:=jg5 hr x
 rw [hx] at hxv
 unfold kd0 at hT
 split at hT
 ·rename_i hT'
  split at hT
  ·rename_i hE'
   simp only [Option.some.injEq] at hT
   rw [hT] at hT' hE'
   obtain ⟨ti,dt,_,hF,_⟩:=jd0 hr.wr.tok hT'
   obtain ⟨ti2,de,_,hF2,_⟩:=jd0 hr.wr.tok hE'
   have hd1:=hF.desc
   have hd2:=hF2.desc
   cases dt<;>simp only [je3] at hd1<;>try cases hd1
   simp only [beq_iff_eq] at hd1
   subst hd1
   cases de<;>simp only [je3] at hd2<;>try cases hd2
   have:=of_decide_eq_true hd2
   subst this
   have hxv0:=hxv
   rcases jq8 hxv with ⟨h1,h2⟩|⟨b,cap,h1,h2,h3,h4,h5⟩
   ·omega
   ·obtain ⟨cs,fz,g1,g2,g3,g4,g5⟩:=hr.wr.at hl h2
    have hblt:b<w.heap.size:=(hr.wr.ok l b h2).1
    have hsh:w.shape? b=some (el,cs.size):=by unfold World.shape?;rw [g1]
    have hrun:(execOp a.eval o).run C.P w = .ok (.value (a.eval x)) (w.freeze ⟨b,cs.size,none⟩ 1):=by
     simp [execOp,ho,convert,Sem.run_bind,hF.underlying w,hF2.underlying w,h1,markStringish,hsh]
    rw [hrun]
    obtain ⟨fz',hfz'⟩:∃fz':Nat×Nat,fz'=(if fz.1==fz.2 then (cs.size,cs.size+1) else (min fz.1 cs.size,max fz.2 (cs.size+1))):=⟨_,rfl⟩
    have hg':(w.freeze ⟨b,cs.size,none⟩ 1).heap[b]?=some (.cells cs el fz'):=by
     unfold World.freeze
     rw [if_neg (by decide)]
     have:w.heap[b]?=some (.cells cs el (fz.1,fz.2)):=g1
     simp only [Array.getElem?_modify,if_true,this,Option.map_some,hfz']
    have hu:ka1 fz' cs.size:=by
     rw [hfz']
     rcases g3.1 with e|e
     ·rw [e];right;simp
     ·right
      split
      ·simp
      ·simp;omega
    obtain ⟨w1,w2⟩:=hr.wr.refz h2 g1 hg' hu (fun L' T' sz' hk'=>by rw [hl] at hk';cases hk';rfl) ⟨by unfold World.freeze;rw [if_neg (by decide)],by unfold World.freeze;rw [if_neg (by decide)],by unfold World.freeze;rw [if_neg (by decide)],by unfold World.freeze;rw [if_neg (by decide)];simp⟩ (fun b' hb'=>by
     unfold World.freeze
     rw [if_neg (by decide)]
     simp only [Array.getElem?_modify]
     rw [if_neg (by omega)])
    exact ⟨bs,Rel.put ⟨hr.defers,hr.size,fun t=>RV.ext w2 (hr.slots t),w1⟩ (jf1 hd) (RV.ext w2 hxv0)⟩
  ·cases hT
 ·cases hT
theorem jo1 {C:Cx}{o:Oper}{st:St}{t el len:Nat}{e:TE}{parts:Array (Nat×Operand)}{b1 b2:Nat}{z1:D}{xs:List D} (ho:o.op = .buildSlice t len parts) (hd:dstB C o=true) (hT:C.T t=some ⟨.slice el,b1,b2,z1⟩) (hE:C.T el=some e) (hi:parts.toList.map (·.1)=List.range len)
  (hpos:0<e.sz:=by decide) (hle:len≤1000000:=by decide) (ha0:jc7 C st o=xs:=by exact dsx) (hx:xs.all (fun d=>jc1 d&&(aggB d||scB d)&&nc d==e.sz)=true:=by rfl) (hl:len*e.sz≤16777216:=by decide):DO C o st (St.put ⟨st.s,st.h++[some (.row xs el e.sz)]⟩ o.dst (.own st.h.length len el e.sz)) :=
 vz4 ho hd hT hE hi hpos hle ha0 hx hl
theorem jg7 {C:Cx}{o:Oper}{st:St}{t el l n:Nat}{L:List D}{x:Operand} (ho:o.op = .convert t t x) (hd:dstB C o=true) (hT:kd0 C.T t=some el) (hx:evD C st x = .own l n el 1:=by exact dsx) (hn:0<n:=by omega) (hl:st.h[l]?=some (some (.row L el 1)):=by exact dsx):DO C o st (St.put st o.dst (.own l n el 1)) :=
 qy7 ho hd hT hx hn hl

theorem ku0 {pins:List Nat}:∀{l:List (Nat×D)},l.all (fun p=>kn9 pins p.2)=true→∀t,kn9 pins (look l t)=true
 | [],_,t=>rfl
 | (k,d)::l,h,t=>by
  simp only [List.all_cons,Bool.and_eq_true] at h
  simp only [look]
  split
  ·exact h.1
  ·exact ku0 h.2 t
def wf2 (pins:List Nat) (h:List (Option Bk)):Bool:=pins.all fun l=>match h[l]? with|some (some (.one _))=>true|_=>false
theorem jy9 {E:Env}{n:Nat}{pins:List Nat}{w0:World}{A0:Nat→Prop}{bs0:List (Option Nat)} (pins':List Nat) (live:List Nat) {g:Operand}{ps:List Tmp}{assign body:Code}{gf:FuncId}{caps:D}{items:List (List D)}{Q:Exit→PUnit→St→Prop}{l l':List (Nat×D)}{h:List (Option Bk)}
  (H:List (List D)→List (Option Bk)) (X:Exit→List (Option Bk)→Prop) (hgen:SeqX E gf caps items) (eg:fnB E.P gf=true) (hpp:pins.all pins'.contains=true)
  (hg:∀(w0:World) (A S0:Nat→Prop) (f:Nat→Option Nat),evD (mkG E n w0 A S0 (fxP pins f)) (mk l h) g = .fn gf caps) (hcap:jc1 caps=true)
  (h0:h=H []) (hsl:l'.all (fun p=>kn9 pins' p.2)=true) (hpin:wf2 pins' (H [])=true) (hpn:ps.all (Nat.blt · n)=true) (hlen:∀x ∈ items,x.length=ps.length)
  (hbody:∀(M:Md E n pins' PUnit) (L:Nat) (pre:List (List D)) (x:List D),(pre++[x]) <+: items→DX M (some L) assign (qf1 (fun _ st'=>∀(M2:Md E n pins' PUnit),DX M2 (some L) body (vo9 E n pins' (H (pre++[x])) X) ⟨⟩ st') (fun _ _ _=>False)) ⟨⟩ ⟨asgD (look l') ps x,H pre⟩)
  (hdone:Q .normal ⟨⟩ (mk l' (H items))) (hstop:∀e h',X e h'→Q e ⟨⟩ (mk l' h')) (e:pick (look l) live=l':=by exact dz6) :
  DX (MdFn E n pins w0 A0 bs0) none (.rangeFunc g ps.toArray assign body) Q ⟨⟩ (mk l h):=by
 subst h0
 refine vi2 (s0:=look l) (ps:=ps.toArray) pins' (fun i hi=>?_) (look l') H X hgen (fun args w=>qi2 eg args w) hg hcap (fun t=>by rw [← e];exact kl2 _ _ t) (ku0 hsl) (fun k hk=>?_) (fun p hp=>?_) (fun x hx=>by simpa using hlen x hx) (fun M L pre x hx=>?_) hdone hstop
 ·have:=List.all_eq_true.1 hpp i (by simpa using hi)
  exact this
 ·have:=List.all_eq_true.1 hpin k (by simpa using hk)
  split at this
  ·rename_i d hd;exact ⟨d,hd⟩
  ·cases this
 ·have:=List.all_eq_true.1 hpn p (by simpa using hp)
  simpa using this
 ·simpa using hbody M L pre x hx
theorem ka8 {E:Env}{n:Nat}{pins:List Nat}{γ:Type 1}{M:Md E n pins γ}{r:Option Nat}{Q:Exit→γ→St→Prop}{g:γ}{c:Code}{s:Nat→D}{h:List (Option Bk)} (live:List Nat) {l:List (Nat×D)} (k:DX M r c Q g (mk l h)) (e:pick s live=l:=by simp only [pick,kil,asgD,jc0,implies_true,setD,bslF,jf8,je6,List.zip_cons_cons,List.zip_nil_right,List.zip_nil_left,jc1,rng0,rng1,rng2,rng3,rng4,rng5,rng6,rng7,rng8,List.getD_cons_zero,List.getD_cons_succ,Nat.reduceLeDiff,decide_true,decide_false,List.all_cons,List.all_nil,dqF,nilF,jh9,jc7,Op.operands,Call.operands,evD,cD,gip,upd,look,List.map,List.map_cons,List.map_nil,binF,binI,shI,binS,unF,wD,kLo,kHi,kMod,jh8,jh1,jh2,jg0,jf9,jg2,jg1,lenF,lenD,jf2,je9,minF,je7,cutL,bndF,sub,nc,aggT,aggB,scB,tnth,elems,L_B,L_mk,List.getElem?_cons_zero,List.getElem?_cons_succ,reduceIte,reduceCtorEq,Option.isSome,List.toList_toArray,Nat.reduceAdd,Nat.reduceSub,Nat.reduceMul,Nat.reduceEqDiff,Nat.reduceLT,Nat.reduceBEq,mkF,mkG,Bool.and_true,Bool.true_and,Bool.and_false,Bool.false_and,beq_self_eq_true,mkC,Int.reduceToNat,Int.toNat_natCast,Int.reduceAdd,Int.reduceSub,Int.reduceMul,Nat.zero_add,Nat.add_zero,Nat.mul_one,and_true,true_and,Option.getD_some,Option.getD_none,ne_eq,not_true_eq_false,not_false_eq_true,decide_not,Bool.not_true,Bool.not_false,Int.reduceLT,Int.reduceLE,Int.reduceEq,Int.reduceNe,Int.reduceGT,Int.reduceGE,gt_iff_lt,ge_iff_le,Nat.reduceLT,Nat.reduceLeDiff,u32D,u8D,iD,bD,strD,jf7,jh5,jf5,jf3,jf6,je4,jf0,jh6,jg9,hX];exact rfl):DX M r c Q g ⟨s,h⟩:=vr5 live e k
theorem qh1 (x:UInt8):ji5 (jc0 x)=x:=by simp [ji5,jc0]
theorem rowB {l:List UInt8}{n:Nat} (h:l.length≤n):((l.map jc0).take n).map ji5=l:=by
 rw [List.take_of_length_le (by simpa using h),List.map_map]
 conv=>rhs;rw [← List.map_id l]
 exact List.map_congr_left fun x _=>qh1 x
def jw8 (T:Nat→Option TE) (s t:Nat):Bool:=match T s,T t with
 | some ⟨.slice el,_,_,_⟩,some ⟨.str,_,_,_⟩=>(match T el with|some ⟨.int .u8,_,_,_⟩=>true|_=>false)
 | _,_=>false
theorem ks1 {C:Cx}{o:Oper}{h:List (Option Bk)}{s t l n el sz:Nat}{x:Operand}{L:List UInt8} (ho:o.op = .convert s t x) (hT:jw8 C.T s t=true) (hl:h[l]?=some (some (.row (L.map jc0) el sz))) (hn:n=L.length):DQ C o [.own l n el sz] h (.v (.string (B L))):=by
 have he:jh1 C.T h s t (.own l n el sz)=some ((n≤(L.map jc0).length)∧∀d ∈ (L.map jc0).take n,isU8 d,.v (.string (B (((L.map jc0).take n).map ji5)))):=by
  unfold jw8 at hT
  split at hT
  ·rename_i hs ht
   split at hT
   ·rename_i he
    simp only [jh1,hs,ht,he,elems,hl]
   ·cases hT
  ·cases hT
 have:=qp7 ho he ⟨by simp [hn],fun d hd=>by
  obtain ⟨c,_,rfl⟩:=List.mem_map.1 (List.mem_of_mem_take hd)
  trivial⟩
 rwa [rowB (by omega)] at this
section
variable {C:Cx}{ops:Array Oper}{K:St→Prop}{o o':Oper}{rest:List Oper}{s:Nat→D}{h:List (Option Bk)}
theorem cvx {a b l n el sz:Nat}{x:Operand}{L:List UInt8} (t:Nat) (hg:o.guard=none) (hd:o.dst=some t) (ht':Nat.blt t C.n=true) (ho:o.op = .convert a b x) (hT:jw8 C.T a b=true) (k:DR C ops K rest ⟨upd s t (.v (.string (B L))),h⟩)
  (e:jc7 C ⟨s,h⟩ o=[.own l n el sz]:=by exact dsx) (hl:h[l]?=some (some (.row (L.map jc0) el sz)):=by exact rfl) (hn:n=L.length:=by first|omega|exact lnx):DR C ops K (o::rest) ⟨s,h⟩:=DR_c t hg hd ht' e (ks1 ho hT hl hn) k
theorem cvxq {a b l n el sz:Nat}{x:Operand}{L:List UInt8} (t:Nat) (hg:o.guard=none) (hd:o.dst=some t) (ht':Nat.blt t C.n=true) (ho:o.op = .convert a b x) (hT:jw8 C.T a b=true) (k:DRq C ops K rest ⟨upd s t (.v (.string (B L))),h⟩)
  (e:jc7 C ⟨s,h⟩ o=[.own l n el sz]:=by exact dsx) (hl:h[l]?=some (some (.row (L.map jc0) el sz)):=by exact rfl) (hn:n=L.length:=by first|omega|exact lnx):DRq C ops K (o::rest) ⟨s,h⟩:=km6 t hg hd ht' e (ks1 ho hT hl hn) k
end

theorem Weak.one {C:Cx}{l:List (Nat×D)}{h:List (Option Bk)} (p:Nat) {d d':D} (hp:h[p]?=some (some (.one d))) (hn:nc d'=nc d) (hc:∀(i:Nat) (w:World) (bs:List (Option Nat)) (x:Value),i<nc d→R1 C w bs x (cell d i)→R1 C w bs x (cell d' i)):Weak C (mk l h) (mk l (h.set p (some (.one d')))):=fun bs a w hr=>by
 have hw:=hr.wr
 refine ⟨bs,hr.defers,hr.size,hr.slots,⟨by simp [hw.len,mk],hw.inj,hw.ok,fun i kk hk=>?_,hw.fr,hw.gl,hw.g0,hw.tok,hw.mix,hw.s0,hw.fix⟩⟩
 simp only [mk] at hk
 rw [List.getElem?_set] at hk
 split at hk
 ·rename_i e
  subst e
  split at hk
  ·simp at hk
   subst hk
   rcases hw.blk p _ hp with ⟨b,h1,cs,T,fz,e1,e2,e3,e4⟩|⟨T,sz,h1,_⟩
   ·exact .inl ⟨b,h1,cs,T,fz,e1,by rw [hn];exact e2,e3,fun i hi=>hc i w bs _ (by omega) (e4 i hi)⟩
   ·cases h1
  ·cases hk
 ·exact hw.blk i kk hk
theorem Weak.nil_row {C:Cx}{l:List (Nat×D)}{h:List (Option Bk)} (T sz:Nat):Weak C (mk l h) (mk l (h++[some (.row [] T sz)])):=fun bs a w hr=>by
 obtain ⟨w1,w2⟩:=hr.wr.more (ob:=none) (k:=.row [] T sz) (Nat.le_refl _) rfl rfl rfl (fun _ _=>rfl) (by simp) (fun _=>.inr ⟨_,_,rfl,rfl⟩)
 exact ⟨_,hr.defers,hr.size,fun i=>RV.ext w2 (hr.slots i),w1⟩
theorem Weak.nil_ownB {C:Cx}{l:List (Nat×D)}{h:List (Option Bk)} (p T sz:Nat) (hp:h[p]?=some (some (.one (.v (.slice none 0 0))))):Weak C (mk l h) (mk l ((h++[some (Bk.row [] T sz)]).set p (some (.one (.own h.length 0 T sz))))):=by
 refine (Weak.nil_row T sz).trans (Weak.one p (d:=.v (.slice none 0 0)) ?_ rfl fun i w bs x hi hx=>?_)
 ·rw [List.getElem?_append_left (List.getElem?_eq_some_iff.1 hp).1];exact hp
 ·have hx':RV C w bs x (.v (.slice none 0 0)):=hx
  rw [(RV_v hx').1]
  exact R1.own0
theorem hcs:(∀(p:Prop) [Decidable p],(decide p=true)=p)∧(∀(p:Prop) [Decidable p],(decide p=false) = ¬p)∧(∀b:Bool,((!b)=true)=(b=false))∧(∀b:Bool,((!b)=false)=(b=true))∧(∀a b:Int,(¬a<b)=(b≤a))∧(∀a b:Int,(¬a≤b)=(b<a))∧(∀a b:Int,(a ≥ b)=(b≤a))∧(∀a b:Int,(a>b)=(b<a))∧(∀p:Prop,(¬¬p)=p)∧((!true)=false)∧((!false)=true)∧(∀m n:Nat,((m:Int)=(n:Int))=(m=n))∧(∀m n:Nat,((m:Int)≤(n:Int))=(m≤n))∧(∀m n:Nat,((m:Int)<(n:Int))=(m<n)) :=
 ⟨fun p _=>by simp,fun p _=>by simp,fun b=>by simp,fun b=>by simp,fun a b=>by simp,fun a b=>by simp,fun _ _=>rfl,fun _ _=>rfl,fun p=>propext Classical.not_not,rfl,rfl,fun m n=>propext Int.natCast_inj,fun m n=>propext Int.ofNat_le,fun m n=>propext Int.ofNat_lt⟩
section
variable {C:Cx}{ops:Array Oper}{K:St→Prop}{o:Oper}{rest:List Oper}{st st':St}
theorem exb {st''} (hg:o.guard=none) (hD:DO C o st st') (k:DR C ops K rest st'') (e:st'=st'':=by simp only [St.put,kilH,kilB,kil,List.set,List.length,List.nil_append,List.cons_append,List.append_nil,Option.map,jc0,implies_true,setD,bslF,jf8,je6,List.zip_cons_cons,List.zip_nil_right,List.zip_nil_left,jc1,rng0,rng1,rng2,rng3,rng4,rng5,rng6,rng7,rng8,List.getD_cons_zero,List.getD_cons_succ,Nat.reduceLeDiff,decide_true,decide_false,List.all_cons,List.all_nil,dqF,nilF,jh9,jc7,Op.operands,Call.operands,evD,cD,gip,upd,look,List.map,List.map_cons,List.map_nil,binF,binI,shI,binS,unF,wD,kLo,kHi,kMod,jh8,jh1,jh2,jg0,jf9,jg2,jg1,lenF,lenD,jf2,je9,minF,je7,cutL,bndF,sub,nc,aggT,aggB,scB,tnth,elems,L_B,L_mk,List.getElem?_cons_zero,List.getElem?_cons_succ,reduceIte,reduceCtorEq,Option.isSome,List.toList_toArray,Nat.reduceAdd,Nat.reduceSub,Nat.reduceMul,Nat.reduceEqDiff,Nat.reduceLT,Nat.reduceBEq,mkF,mkG,Bool.and_true,Bool.true_and,Bool.and_false,Bool.false_and,beq_self_eq_true,mkC,Int.reduceToNat,Int.toNat_natCast,Int.reduceAdd,Int.reduceSub,Int.reduceMul,Nat.zero_add,Nat.add_zero,Nat.mul_one,and_true,true_and,Option.getD_some,Option.getD_none,ne_eq,not_true_eq_false,not_false_eq_true,decide_not,Bool.not_true,Bool.not_false,Int.reduceLT,Int.reduceLE,Int.reduceEq,Int.reduceNe,Int.reduceGT,Int.reduceGE,gt_iff_lt,ge_iff_le,Nat.reduceLT,Nat.reduceLeDiff,u32D,u8D,iD,bD,strD,jf7,jh5,jf5,jf3,jf6,je4,jf0,jh6,jg9,hX];exact rfl):DR C ops K (o::rest) st:=DR_e hg hD e k
theorem sx (k:DR C ops K rest st') (hs:∀K rest,DR C ops K rest st'→DR C ops K (o::rest) st:=by intro _ _ k';first|exact cvx _ rfl rfl rfl rfl rfl k'|exact qx _ rfl rfl rfl k'|exact ex rfl (jb5 rfl rfl rfl) k'|exact exb rfl (jb8 rfl rfl) k'|exact ex rfl (jb1 rfl rfl) k'|exact ex rfl (ju6 rfl rfl ⟨⟨_,_,_,rfl⟩,rfl,⟨_,rfl,rfl⟩,rfl,by decide⟩ rfl) k'|exact ex rfl (jp4 rfl rfl ⟨⟨_,_,_,rfl⟩,rfl,⟨_,rfl,rfl⟩,rfl,by decide⟩) k'|exact ex rfl (qf4 rfl rfl rfl rfl) k'|exact jb9 _ rfl rfl rfl rfl k'|exact ex rfl (jg7 rfl rfl rfl) k'):DR C ops K (o::rest) st:=hs _ _ k
theorem sxq (k:DRq C ops K rest st') (hs:∀K rest,DRq C ops K rest st'→DRq C ops K (o::rest) st:=by intro _ _ k';first|exact cvxq _ rfl rfl rfl rfl rfl k'|exact qxq _ rfl rfl rfl k'|exact jj9 _ rfl rfl rfl rfl k'):DRq C ops K (o::rest) st:=hs _ _ k
theorem gx (k:DR C ops K rest st') (hs:∀K,DR C ops K rest st'→DR C ops K (o::rest) st:=by intro _ k';first|exact skx rfl rfl rfl rfl k'|exact wa0 rfl rfl rfl rfl k'):DR C ops K (o::rest) st:=hs _ k
theorem gxq (k:DRq C ops K rest st') (hs:∀K,DRq C ops K rest st'→DRq C ops K (o::rest) st:=by intro _ k';first|exact skxq rfl rfl rfl rfl k'|exact vq9 rfl rfl rfl rfl k'):DRq C ops K (o::rest) st:=hs _ k
end
theorem KL.mono {live:List Nat}{K K':St→Prop} (h:∀st,K st→K' st) {st:St} (k:KL live K st):KL live K' st:=fun l e=>h _ (k l e)
section
variable {E:Env}{n:Nat}{pins:List Nat}{γ:Type 1}{M:Md E n pins γ}{r:Option Nat}{Q:Exit→γ→St→Prop}{g:γ}{id:Nat}{ops:List Oper}{l l':List (Nat×D)}{h h':List (Option Bk)}
theorem rgx (live:List Nat) (k:Q .normal g (mk l' h')) (hd:∀(w0:World) (A S0:Nat→Prop) (f:Nat→Option Nat),DR (mkG E n w0 A S0 (fxP pins f)) ops.toArray (KL live (fun st=>st=mk l' h')) ops ⟨look l,h⟩:=by intro w0 A S0 f0;(repeat ((with_reducible show DR _ _ _ (_::_) _);first|(refine cx _ (envG _ _ _ _ _ _) rfl rfl rfl rfl rfl ?_ (hc:=by first|exact hK.1|exact hK.2.1|exact hK.2.2.1|exact hK.2.2.2.1|exact hK.2.2.2.2.1|exact hK.2.2.2.2.2.1|exact hK.2.2.2.2.2.2.1|exact hK.2.2.2.2.2.2.2.1))|(refine sx ?_)));refine ja1 ?_;refine kl1 ?_;first|exact rfl|(exact dz7)):DX M r (.region id ops.toArray false) Q g (mk l h) :=
 jb2 live fun w0 A S0 f=>jw2 (fun _ h=>h.mono fun _ e=>e ▸ k) (hd w0 A S0 f)
theorem rggx (live:List Nat) (k:Q .normal g (mk l' h')) (hd:∀(w0:World) (A S0:Nat→Prop) (f:Nat→Option Nat),DR (mkG E n w0 A S0 (fxP pins f)) ops.toArray (KL live (fun st=>st=mk l' h')) ops ⟨look l,h⟩:=by intro w0 A S0 f0;(repeat ((with_reducible show DR _ _ _ (_::_) _);first|(refine gtx rfl rfl ?_)|(refine gx ?_)|(refine cx _ (envG _ _ _ _ _ _) rfl rfl rfl rfl rfl ?_ (hc:=by first|exact hK.1|exact hK.2.1|exact hK.2.2.1|exact hK.2.2.2.1|exact hK.2.2.2.2.1|exact hK.2.2.2.2.2.1|exact hK.2.2.2.2.2.2.1|exact hK.2.2.2.2.2.2.2.1))|(refine sx ?_)));refine ja1 ?_;refine kl1 ?_;first|exact rfl|(exact dz7)):DX M r (.region id ops.toArray false) Q g (mk l h):=rgx live k hd
theorem rqx (live:List Nat) (k:Q .normal g (mk l' h')) (hB:Region.lexB .any ops.toArray=true:=by kernel_rfl) (hd:∀(w0:World) (A S0:Nat→Prop) (f:Nat→Option Nat),DRq (mkG E n w0 A S0 (fxP pins f)) ops.toArray (KL live (fun st=>st=mk l' h')) ops ⟨look l,h⟩:=by intro w0 A S0 f0;(repeat ((with_reducible show DRq _ _ _ (_::_) _);first|(refine cxq _ (envG _ _ _ _ _ _) rfl rfl rfl rfl rfl ?_ (hc:=by first|exact hK.1|exact hK.2.1|exact hK.2.2.1|exact hK.2.2.2.1|exact hK.2.2.2.2.1|exact hK.2.2.2.2.2.1|exact hK.2.2.2.2.2.2.1|exact hK.2.2.2.2.2.2.2.1))|(refine sxq ?_)));refine jd7 ?_;refine kl1 ?_;first|exact rfl|(exact dz7)):DX M r (.region id ops.toArray true) Q g (mk l h) :=
 ji9 live hB fun w0 A S0 f=>ka7 (fun _ h=>h.mono fun _ e=>e ▸ k) (hd w0 A S0 f)
theorem rqgx (live:List Nat) (k:Q .normal g (mk l' h')) (hB:Region.lexB .any ops.toArray=true:=by kernel_rfl) (hd:∀(w0:World) (A S0:Nat→Prop) (f:Nat→Option Nat),DRq (mkG E n w0 A S0 (fxP pins f)) ops.toArray (KL live (fun st=>st=mk l' h')) ops ⟨look l,h⟩:=by intro w0 A S0 f0;(repeat ((with_reducible show DRq _ _ _ (_::_) _);first|(refine gtxq rfl rfl ?_)|(refine gxq ?_)|(refine cxq _ (envG _ _ _ _ _ _) rfl rfl rfl rfl rfl ?_ (hc:=by first|exact hK.1|exact hK.2.1|exact hK.2.2.1|exact hK.2.2.2.1|exact hK.2.2.2.2.1|exact hK.2.2.2.2.2.1|exact hK.2.2.2.2.2.2.1|exact hK.2.2.2.2.2.2.2.1))|(refine sxq ?_)));refine jd7 ?_;refine kl1 ?_;first|exact rfl|(exact dz7)):DX M r (.region id ops.toArray true) Q g (mk l h):=rqx live k hB hd
theorem rtx (m:Nat) (live:List Nat) (k:Q .normal g (mk l' h')) (hB:Region.lexTailB .any ops.toArray m=true:=by kernel_rfl) (hd:∀(w0:World) (A S0:Nat→Prop) (f:Nat→Option Nat),DRq (mkG E n w0 A S0 (fxP pins f)) ops.toArray (fun st'=>DR (mkG E n w0 A S0 (fxP pins f)) ops.toArray (KL live (fun st=>st=mk l' h')) (ops.drop m) st') (ops.take m) ⟨look l,h⟩:=by intro w0 A S0 f0;simp only [List.take,List.drop];(repeat ((with_reducible show DRq _ _ _ (_::_) _);first|(refine cxq _ (envG _ _ _ _ _ _) rfl rfl rfl rfl rfl ?_ (hc:=by first|exact hK.1|exact hK.2.1|exact hK.2.2.1|exact hK.2.2.2.1|exact hK.2.2.2.2.1|exact hK.2.2.2.2.2.1|exact hK.2.2.2.2.2.2.1|exact hK.2.2.2.2.2.2.2.1))|(refine sxq ?_)));refine jd7 ?_;(repeat ((with_reducible show DR _ _ _ (_::_) _);first|(refine cx _ (envG _ _ _ _ _ _) rfl rfl rfl rfl rfl ?_ (hc:=by first|exact hK.1|exact hK.2.1|exact hK.2.2.1|exact hK.2.2.2.1|exact hK.2.2.2.2.1|exact hK.2.2.2.2.2.1|exact hK.2.2.2.2.2.2.1|exact hK.2.2.2.2.2.2.2.1))|(refine sx ?_)));refine ja1 ?_;refine kl1 ?_;first|exact rfl|(exact dz7)):DX M r (.region id ops.toArray true) Q g (mk l h) :=
 kj1 live m hB fun w0 A S0 f=>ka7 (fun _ h=>jw2 (fun _ h=>h.mono fun _ e=>e ▸ k) h) (hd w0 A S0 f)
variable {c:Operand}{x y:Code}{b:Bool}{st:St}
theorem ifx (ht:b=true→DX M r x Q g st) (hf:b=false→DX M r y Q g st) (hc:∀(w0:World) (A S0:Nat→Prop) (f:Nat→Option Nat),evD (mkG E n w0 A S0 (fxP pins f)) st c = .v (.bool b):=by intro _ _ _ _;simp only [evD,mk,look,reduceIte,Nat.reduceEqDiff];exact rfl):DX M r (.cond c x y) Q g st:=kw4 hc ht hf
theorem iftx (ht:DX M r x Q g st) (hc:∀(w0:World) (A S0:Nat→Prop) (f:Nat→Option Nat),evD (mkG E n w0 A S0 (fxP pins f)) st c = .v (.bool b):=by intro _ _ _ _;simp only [evD,mk,look,reduceIte,Nat.reduceEqDiff];exact rfl) (hf:b=false→False:=by intro hc;first|(cases hc;done)|(simp [hX] at hc;done)|(simp only [decide_eq_true_eq,decide_eq_false_iff_not,Bool.not_eq_true',Bool.not_eq_false',Int.not_lt,Int.not_le,ge_iff_le,gt_iff_lt,Classical.not_not,ne_eq,Bool.not_true,Bool.not_false,Int.natCast_inj,Int.ofNat_le,Int.ofNat_lt] at hc;omega)):DX M r (.cond c x y) Q g st:=kw4 hc (fun _=>ht) fun h=>(hf h).elim
theorem iffx (hf:DX M r y Q g st) (hc:∀(w0:World) (A S0:Nat→Prop) (f:Nat→Option Nat),evD (mkG E n w0 A S0 (fxP pins f)) st c = .v (.bool b):=by intro _ _ _ _;simp only [evD,mk,look,reduceIte,Nat.reduceEqDiff];exact rfl) (ht:b=true→False:=by intro hc;first|(cases hc;done)|(simp [hX] at hc;done)|(simp only [decide_eq_true_eq,decide_eq_false_iff_not,Bool.not_eq_true',Bool.not_eq_false',Int.not_lt,Int.not_le,ge_iff_le,gt_iff_lt,Classical.not_not,ne_eq,Bool.not_true,Bool.not_false,Int.natCast_inj,Int.ofNat_le,Int.ofNat_lt] at hc;omega)):DX M r (.cond c x y) Q g st:=kw4 hc (fun h=>(ht h).elim) fun _=>hf
theorem retx {rs:List ResultVar}{G:D→Prop}{p:Prop}{d:D} (k:G d) (ho:∀(w0:World) (A S0:Nat→Prop) (f:Nat→Option Nat),outD (mkG E n w0 A S0 (fxP pins f)) st rs=some (p,d):=by intro _ _ _ _;simp only [outD,resD,outV,ja4,List.all,js0,jc0,implies_true,setD,bslF,jf8,je6,List.zip_cons_cons,List.zip_nil_right,List.zip_nil_left,jc1,rng0,rng1,rng2,rng3,rng4,rng5,rng6,rng7,rng8,List.getD_cons_zero,List.getD_cons_succ,Nat.reduceLeDiff,decide_true,decide_false,List.all_cons,List.all_nil,dqF,nilF,jh9,jc7,Op.operands,Call.operands,evD,cD,gip,upd,look,List.map,List.map_cons,List.map_nil,binF,binI,shI,binS,unF,wD,kLo,kHi,kMod,jh8,jh1,jh2,jg0,jf9,jg2,jg1,lenF,lenD,jf2,je9,minF,je7,cutL,bndF,sub,nc,aggT,aggB,scB,tnth,elems,L_B,L_mk,List.getElem?_cons_zero,List.getElem?_cons_succ,reduceIte,reduceCtorEq,Option.isSome,List.toList_toArray,Nat.reduceAdd,Nat.reduceSub,Nat.reduceMul,Nat.reduceEqDiff,Nat.reduceLT,Nat.reduceBEq,mkF,mkG,Bool.and_true,Bool.true_and,Bool.and_false,Bool.false_and,beq_self_eq_true,mkC,Int.reduceToNat,Int.toNat_natCast,Int.reduceAdd,Int.reduceSub,Int.reduceMul,Nat.zero_add,Nat.add_zero,Nat.mul_one,and_true,true_and,Option.getD_some,Option.getD_none,ne_eq,not_true_eq_false,not_false_eq_true,decide_not,Bool.not_true,Bool.not_false,Int.reduceLT,Int.reduceLE,Int.reduceEq,Int.reduceNe,Int.reduceGT,Int.reduceGE,gt_iff_lt,ge_iff_le,Nat.reduceLT,Nat.reduceLeDiff,u32D,u8D,iD,bD,strD,jf7,jh5,jf5,jf3,jf6,je4,jf0,jh6,jg9,ja9,tyT,gtab,hX];exact rfl) (hp:p:=by (repeat' apply And.intro)<;>first|exact True.intro|rfl) :
  ∃p r,(∀(w0:World) (A S0:Nat→Prop) (f:Nat→Option Nat),outD (mkG E n w0 A S0 (fxP pins f)) st rs=some (p,r))∧p∧G r:=⟨p,d,ho,hp,k⟩
end
def shD:D→D
 | .ptr (l+1) o=>.ptr l o
 | .ptr 0 _=>.dead
 | .own (l+1) n T sz=>.own l n T sz
 | .own 0 _ _ _=>.dead
 | .osl (l+1) o n=>.osl l o n
 | .osl 0 _ _=>.dead
 | .cons a b=>.cons (shD a) (shD b)
 | .tup ps=>.tup (shD ps)
 | .fn f caps=>.fn f (shD caps)
 | d=>d
theorem ku3 (d:D):nc (shD d)=nc d:=by
 induction d with
 | cons a b ih1 ih2=>simp only [shD,nc,ih1,ih2]
 | ptr l o=>cases l<;>rfl
 | own l=>cases l<;>rfl
 | osl l=>cases l<;>rfl
 | _=>rfl
theorem kn3 (d:D):∀i,cell (shD d) i=shD (cell d i):=by
 induction d with
 | cons a b ih1 ih2 =>
  intro i
  simp only [shD,cell,ku3]
  split
  ·exact ih1 i
  ·exact ih2 _
 | ptr l o=>intro i;cases l<;>rfl
 | own l=>intro i;cases l<;>rfl
 | osl l=>intro i;cases l<;>rfl
 | _=>intro i;rfl
theorem RI.sh {w:World}{S:Nat→Prop}{x:Value}{d:D} (k:RI w S x d):RI w S x (shD d):=by
 induction k with
 | fn hn _ ih=>exact .fn (by rw [ku3];exact hn) fun i hi=>by rw [kn3];exact ih i hi
 | v h=>exact .v h
 | sl0=>exact .sl0
 | sl sz xs hb hcap hs hx hc _=>exact .sl sz xs hb hcap hs hx hc
 | ip xs hb hx hc _=>exact .ip xs hb hx hc
 | dead h=>exact .dead h
 | pr h k=>exact .pr h k
theorem Sf.sh {C:Cx}{w:World}{bs:List (Option Nat)}{b:Nat} (h:Sf C w bs b):Sf C w bs.tail b:=⟨h.1,h.2.1,fun i=>by rw [List.getElem?_tail];exact h.2.2 (i+1)⟩
theorem R1.sh {C:Cx}{w:World}{bs:List (Option Nat)}{x:Value}{d:D} (k:R1 C w bs x d):R1 C w bs.tail x (shD d):=by
 induction k with
 | im k=>exact .im (k.mono fun b hb=>⟨hb.sh,rfl⟩).sh
 | @ptr l o b hb =>
  cases l with
  | zero=>exact .im (.dead rfl)
  | succ l=>exact .ptr (by rw [List.getElem?_tail];exact hb)
 | @own l n T sz b cap hb hs hn hc =>
  cases l with
  | zero=>exact .im (.dead rfl)
  | succ l=>exact .own (by rw [List.getElem?_tail];exact hb) hs hn hc
 | @own0 l T sz =>
  cases l with
  | zero=>exact .im (.dead rfl)
  | succ l=>exact .own0
 | @osl0 l o a cap =>
  cases l with
  | zero=>exact .im (.dead rfl)
  | succ l=>exact .osl0
 | @osl l o n b cap hb hn =>
  cases l with
  | zero=>exact .im (.dead rfl)
  | succ l=>exact .osl (by rw [List.getElem?_tail];exact hb) hn
 | fn hn _ ih=>exact .fn (by rw [ku3];exact hn) fun i hi=>by rw [kn3];exact ih i hi
theorem RG0.sh {C:Cx}{w:World}{bs:List (Option Nat)}{x:Value}{d:D} (k:RG0 (R1 C w bs) x d):RG0 (R1 C w bs.tail) x (shD d):=by
 cases d with
 | tup ps=>exact k.elim
 | arr kk n f=>obtain ⟨cs,a,b,c⟩:=k;exact ⟨cs,a,b,fun i hi=>(c i hi).sh⟩
 | nil=>exact k
 | cons a b =>
  obtain ⟨cs,h1,h2,h3⟩:=k
  refine ⟨cs,h1,?_,fun i hi=>?_⟩
  ·show cs.size=nc (shD (.cons a b))
   rw [ku3];exact h2
  ·show R1 C w bs.tail cs[i] (cell (shD (.cons a b)) i)
   rw [kn3];exact (h3 i hi).sh
 | dead=>trivial
 | ptr l o =>
  have:=R1.sh (show R1 C w bs x (.ptr l o) from k)
  cases l<;>first|trivial|exact this
 | own l n T sz =>
  have:=R1.sh (show R1 C w bs x (.own l n T sz) from k)
  cases l<;>first|trivial|exact this
 | osl l o n =>
  have:=R1.sh (show R1 C w bs x (.osl l o n) from k)
  cases l<;>first|trivial|exact this
 | v y=>exact R1.sh (show R1 C w bs x (.v y) from k)
 | sl l z e=>exact R1.sh (show R1 C w bs x (.sl l z e) from k)
 | ip d=>exact R1.sh (show R1 C w bs x (.ip d) from k)
 | pr p=>exact R1.sh (show R1 C w bs x (.pr p) from k)
 | fn f c=>exact R1.sh (show R1 C w bs x (.fn f c) from k)
theorem TG.sh {C:Cx}{w:World}{bs:List (Option Nat)}:∀{vs:List Value}{d:D},TG (R1 C w bs) vs d→TG (R1 C w bs.tail) vs (shD d)
 | [],.nil,_=>trivial
 | _::_,.cons _ _,h=>⟨h.1.sh,TG.sh h.2⟩
 | [],.cons _ _,h=>h.elim
 | [],.v _,h=>h.elim
 | [],.arr ..,h=>h.elim
 | [],.tup _,h=>h.elim
 | [],.sl ..,h=>h.elim
 | [],.ip _,h=>h.elim
 | [],.ptr ..,h=>h.elim
 | [],.own ..,h=>h.elim
 | [],.osl ..,h=>h.elim
 | [],.fn ..,h=>h.elim
 | [],.dead,h=>h.elim
 | [],.pr _,h=>h.elim
 | _::_,.nil,h=>h.elim
 | _::_,.v _,h=>h.elim
 | _::_,.arr ..,h=>h.elim
 | _::_,.tup _,h=>h.elim
 | _::_,.sl ..,h=>h.elim
 | _::_,.ip _,h=>h.elim
 | _::_,.ptr ..,h=>h.elim
 | _::_,.own ..,h=>h.elim
 | _::_,.osl ..,h=>h.elim
 | _::_,.fn ..,h=>h.elim
 | _::_,.dead,h=>h.elim
 | _::_,.pr _,h=>h.elim
theorem RV.sh {C:Cx}{w:World}{bs:List (Option Nat)}{x:Value}{d:D} (k:RV C w bs x d):RV C w bs.tail x (shD d):=by
 cases d with
 | tup ps=>obtain ⟨vs,a,b⟩:=k;exact ⟨vs,a,b.sh⟩
 | ptr l o =>
  have:=RG0.sh (jr3 (by rfl) k)
  cases l<;>exact this
 | own l n T sz =>
  have:=RG0.sh (jr3 (by rfl) k)
  cases l<;>exact this
 | osl l o n =>
  have:=RG0.sh (jr3 (by rfl) k)
  cases l<;>exact this
 | _=>exact RG0.sh (jr3 (by rfl) k)
def shB:Bk→Bk
 | .one d=>.one (shD d)
 | .row L T sz=>.row L T sz
theorem qt2:∀(l:List (Nat×D)) (t:Nat),look (l.map fun p=>(p.1,shD p.2)) t=shD (look l t)
 | [],_=>rfl
 | (k,d)::l,t=>by
  simp only [List.map_cons,look]
  split
  ·rfl
  ·exact qt2 l t
theorem Weak.shift {C:Cx}{l l':List (Nat×D)}{h h':List (Option Bk)} (hfx:∀i,C.fx i=none) (el:l.map (fun p=>(p.1,shD p.2))=l') (eh:h.tail.map (Option.map shB)=h'):Weak C (mk l h) (mk l' h'):=fun bs a w hr=>by
 subst el eh
 have hw:=hr.wr
 refine ⟨bs.tail,hr.defers,hr.size,fun t=>?_,⟨by simp [hw.len,mk],fun i j b hi hj=>?_,fun i b hi=>?_,fun i kk hk=>?_,hw.fr,hw.gl,hw.g0,hw.tok,hw.mix,hw.s0,fun i b hi=>?_⟩⟩
 ·show RV C w bs.tail _ (look (l.map fun p=>(p.1,shD p.2)) t)
  rw [qt2]
  exact (hr.slots t).sh
 ·rw [List.getElem?_tail] at hi hj
  have:=hw.inj _ _ b hi hj
  omega
 ·rw [List.getElem?_tail] at hi
  exact hw.ok _ b hi
 ·simp only [mk,List.getElem?_map,List.getElem?_tail,Option.map_eq_some_iff] at hk
  obtain ⟨k0,hk0,hk1⟩:=hk
  cases k0 with
  | none=>simp at hk1
  | some k1 =>
   simp only [Option.some.injEq] at hk1
   obtain ⟨_,rfl,rfl⟩:=hk1
   rcases hw.blk _ k1 hk0 with ⟨b,h1,h2⟩|⟨T,sz,h1,h2⟩
   ·refine .inl ⟨b,by rw [List.getElem?_tail];exact h1,?_⟩
    cases k1 with
    | one d =>
     obtain ⟨cs,T,fz,e1,e2,e3,e4⟩:=h2
     exact ⟨cs,T,fz,e1,by rw [ku3];exact e2,e3,fun i hi=>by rw [kn3];exact (e4 i hi).sh⟩
    | row L T sz =>
     obtain ⟨cs,fz,e1,e2,e3,e4,e5⟩:=h2
     exact ⟨cs,fz,e1,e2,e3,e4,fun i j hi hj=>let ⟨x,hx,hr⟩:=e5 i j hi hj;⟨x,hx,hr.mono fun b hb=>⟨hb.sh,rfl⟩⟩⟩
   ·subst h1
    exact .inr ⟨T,sz,rfl,by rw [List.getElem?_tail];exact h2⟩
 ·rw [hfx i] at hi;cases hi
theorem WeakX.shift {E:Env}{n:Nat}{l l':List (Nat×D)}{h h':List (Option Bk)} (el:l.map (fun p=>(p.1,shD p.2))=l') (eh:h.tail.map (Option.map shB)=h'):WeakX E n [] (mk l h) (mk l' h'):=fun _ _ _ _=>Weak.shift (fun i=>by simp [mkG,fxP]) el eh
theorem WeakX.take {E:Env}{n:Nat}{l:List (Nat×D)}{h h':List (Option Bk)} (k:Nat) (hs:l.all (fun p=>ltB k p.2)=true) (hb:(h.take k).all (ltBk k)=true) (eh:h.take k=h'):WeakX E n [] (mk l h) (mk l h'):=fun _ _ _ _=>eh ▸ Weak.take k (fun i b hi=>by simp [mkG,fxP] at hi) hs hb
theorem Weak.nil_ownC {C:Cx}{l:List (Nat×D)}{h:List (Option Bk)} (p T sz:Nat) {rest:D} (hp:h[p]?=some (some (.one (.cons (.v (.slice none 0 0)) rest)))):Weak C (mk l h) (mk l ((h++[some (Bk.row [] T sz)]).set p (some (.one (.cons (.own h.length 0 T sz) rest))))):=by
 refine (Weak.nil_row T sz).trans (Weak.one p (d:=.cons (.v (.slice none 0 0)) rest) ?_ rfl fun i w bs x hi hx=>?_)
 ·rw [List.getElem?_append_left (List.getElem?_eq_some_iff.1 hp).1];exact hp
 ·by_cases h0:i<1
  ·have a1:cell (.cons (.v (.slice none 0 0)) rest) i = .v (.slice none 0 0):=if_pos h0
   have a2:cell (.cons (.own h.length 0 T sz) rest) i = .own h.length 0 T sz:=if_pos h0
   rw [a1] at hx
   rw [a2]
   have hx':RV C w bs x (.v (.slice none 0 0)):=hx
   rw [(RV_v hx').1]
   exact R1.own0
  ·have a1:cell (.cons (.v (.slice none 0 0)) rest) i=cell rest (i-1):=if_neg h0
   have a2:cell (.cons (.own h.length 0 T sz) rest) i=cell rest (i-1):=if_neg h0
   rw [a1] at hx
   rw [a2]
   exact hx
theorem ka3 {h:List (Option Bk)}{α:Type}{z:α}{e:α→D}:Fin h (.v (.slice none 0 0)) (.sl [] z e):=fun C w bs x _ _ hx=>by
 have:=(RV_v hx).1
 subst this
 exact (RI.sl0:RI w _ (.slice none 0 0) (.sl [] z e))
def suD (k:Nat):D→D
 | .ptr l o=>.ptr (k+l) o
 | .own l n T sz=>.own (k+l) n T sz
 | .osl l o n=>.osl (k+l) o n
 | .cons a b=>.cons (suD k a) (suD k b)
 | .tup ps=>.tup (suD k ps)
 | .fn f caps=>.fn f (suD k caps)
 | d=>d
def suB (k:Nat):Bk→Bk
 | .one d=>.one (suD k d)
 | .row L T sz=>.row L T sz
theorem ku4 (k:Nat) (d:D):nc (suD k d)=nc d:=by
 induction d with
 | cons a b ih1 ih2=>simp only [suD,nc,ih1,ih2]
 | _=>rfl
theorem kn4 (k:Nat) (d:D):∀i,cell (suD k d) i=suD k (cell d i):=by
 induction d with
 | cons a b ih1 ih2 =>
  intro i
  simp only [suD,cell,ku4]
  split
  ·exact ih1 i
  ·exact ih2 _
 | _=>intro i;rfl
theorem RI.su {w:World}{S:Nat→Prop} (k:Nat) {x:Value}{d:D} (h:RI w S x d):RI w S x (suD k d):=by
 induction h with
 | fn hn _ ih=>exact .fn (by rw [ku4];exact hn) fun i hi=>by rw [kn4];exact ih i hi
 | v h=>exact .v h
 | sl0=>exact .sl0
 | sl sz xs hb hcap hs hx hc _=>exact .sl sz xs hb hcap hs hx hc
 | ip xs hb hx hc _=>exact .ip xs hb hx hc
 | dead h=>exact .dead h
 | pr h k=>exact .pr h k
section
variable {C C':Cx}{w:World}{bs bs':List (Option Nat)} (hS:∀b,Sf C' w bs' b→Sf C w (bs++bs') b)
include hS
theorem R1.su {x:Value}{d:D} (h:R1 C' w bs' x d):R1 C w (bs++bs') x (suD bs.length d):=by
 have hl:∀(l b:Nat),bs'[l]?=some (some b)→(bs++bs')[bs.length+l]?=some (some b):=fun l b hb=>by rw [List.getElem?_append_right (by omega),Nat.add_sub_cancel_left];exact hb
 induction h with
 | im h=>exact .im ((h.mono fun b hb=>⟨hS b hb,rfl⟩).su _)
 | ptr h=>exact .ptr (hl _ _ h)
 | own h hs hn hc=>exact .own (hl _ _ h) hs hn hc
 | own0=>exact .own0
 | osl0=>exact .osl0
 | osl h hn=>exact .osl (hl _ _ h) hn
 | fn hn _ ih=>exact .fn (by rw [ku4];exact hn) fun i hi=>by rw [kn4];exact ih i hi
theorem RG0.su {x:Value}{d:D} (h:RG0 (R1 C' w bs') x d):RG0 (R1 C w (bs++bs')) x (suD bs.length d):=by
 cases d with
 | arr k n f=>obtain ⟨cs,a,b,c⟩:=h;exact ⟨cs,a,b,fun i hi=>(c i hi).su hS⟩
 | cons p q =>
  obtain ⟨cs,a,b,c⟩:=h
  refine ⟨cs,a,?_,fun i hi=>?_⟩
  ·show cs.size=nc (suD bs.length (.cons p q))
   rw [ku4];exact b
  ·show R1 C w (bs++bs') cs[i] (cell (suD bs.length (.cons p q)) i)
   rw [kn4];exact (c i hi).su hS
 | nil=>exact h
 | tup ps=>exact h.elim
 | dead=>trivial
 | _=>exact R1.su hS h
theorem TG.su:∀{vs:List Value}{d:D},TG (R1 C' w bs') vs d→TG (R1 C w (bs++bs')) vs (suD bs.length d)
 | [],.nil,_=>trivial
 | _::_,.cons _ _,h=>⟨h.1.su hS,TG.su h.2⟩
 | [],.cons _ _,h=>h.elim
 | [],.v _,h=>h.elim
 | [],.arr ..,h=>h.elim
 | [],.tup _,h=>h.elim
 | [],.sl ..,h=>h.elim
 | [],.ip _,h=>h.elim
 | [],.ptr ..,h=>h.elim
 | [],.own ..,h=>h.elim
 | [],.osl ..,h=>h.elim
 | [],.fn ..,h=>h.elim
 | [],.dead,h=>h.elim
 | [],.pr _,h=>h.elim
 | _::_,.nil,h=>h.elim
 | _::_,.v _,h=>h.elim
 | _::_,.arr ..,h=>h.elim
 | _::_,.tup _,h=>h.elim
 | _::_,.sl ..,h=>h.elim
 | _::_,.ip _,h=>h.elim
 | _::_,.ptr ..,h=>h.elim
 | _::_,.own ..,h=>h.elim
 | _::_,.osl ..,h=>h.elim
 | _::_,.fn ..,h=>h.elim
 | _::_,.dead,h=>h.elim
 | _::_,.pr _,h=>h.elim
theorem RV.su {x:Value}{d:D} (h:RV C' w bs' x d):RV C w (bs++bs') x (suD bs.length d):=by
 cases d with
 | tup ps=>obtain ⟨vs,a,b⟩:=h;exact ⟨vs,a,b.su hS⟩
 | _=>exact RG0.su hS (jr3 (by rfl) h)
end
theorem vg9 {E:Env}{C:Cx} (hE:EnvC E C) {o:Oper}{st:St}{f:FuncId}{g:Operand}{args:Array Operand}{ts:Array TypeId}{r:D}{H':List (Option Bk)}{xs:List D} (ho:o.op = .call { callee:=.value g,args:=args,argTypes:=ts }) (hd:dstB C o=true) (hf:fnB C.P f=true)
  (hx:jc7 C st o = .fn f .nil::xs) (hp:xs.all jc1=true) (hc:PH E f xs [] r H'):DO C o st (St.put ⟨st.s,st.h++H'.map (Option.map (suB st.h.length))⟩ o.dst (suD st.h.length r)):=by
 intro bs a w hr
 have ha:=All2.map (R:=RV C w bs) (f:=a.eval) (g:=evD C st) o.op.operands.toList (fun x _=>jg5 hr x)
 have hargs:o.op.operands.toList.map (evD C st) = .fn f .nil::xs:=hx
 rw [hargs] at ha
 obtain ⟨vs,hrun,hv⟩:=jz2 (C:=C) (cs:=[]) (by simp) hf ho ha
 rw [List.append_nil] at hv
 have hw:=hr.wr
 have hG:=kj2 hE hw
 have hg:∀b,b<E.gN→Sf C w bs b:=by rw [hE.gN];exact Sf_g hw
 have hcall:=hc 0 w (Sf C w bs) [] vs (fun b hb=>⟨hb.2.1,by simp⟩)
  ⟨rfl,by simp,by simp,by simp,⟨rfl,rfl,rfl,Nat.le_refl _,fun _ _=>rfl⟩,fun b hb=>⟨⟨(hg b hb).2.1,by simp⟩,hg b hb⟩,hG.gl,hG.tok,hG.mix,fun b hb=>hb.1,fun i b hi=>by simp [mkG,fxP] at hi⟩
  (All2.imp (K:=fun d e=>d=e∧jc1 d=true) (fun a b c h1 h2=>by
   obtain ⟨rfl,h3⟩:=h2
   exact RG.imp h3 (fun _ _ hp' h=>.im ((h.pure hp').mono fun b hb=>⟨⟨.inl hb,hb.2.1,by simp⟩,rfl⟩)) h1) hv (All2.reflP fun x hx'=>⟨rfl,List.all_eq_true.1 hp x hx'⟩))
 rw [hE.P] at hcall
 rw [hrun]
 refine hcall.mono fun e w' ⟨x,bs',he,h2,hxr⟩=>⟨x,he,bs++bs',?_⟩
 have hfr:=h2.fr
 have hsz:w.heap.size≤w'.heap.size:=hfr.size
 have hbk:∀b,b<w.heap.size→w'.heap[b]?=w.heap[b]?:=fun b hb=>hfr.block b ⟨hb,by simp⟩
 have hnew:∀(i b:Nat),bs'[i]?=some (some b)→w.heap.size≤b∧b<w'.heap.size:=fun i b hi=>⟨Nat.le_of_not_lt fun hlt=>(h2.ok i b hi).2 ⟨hlt,by simp⟩,(h2.ok i b hi).1⟩
 have hlen:bs.length=st.h.length:=hw.len
 have hat:∀(i b:Nat),(bs++bs')[i]?=some (some b)→(i<bs.length∧bs[i]?=some (some b))∨(bs.length≤i∧bs'[i-bs.length]?=some (some b)):=fun i b hi=>by
  by_cases h:i<bs.length
  ·rw [List.getElem?_append_left h] at hi;exact .inl ⟨h,hi⟩
  ·rw [List.getElem?_append_right (by omega)] at hi;exact .inr ⟨by omega,hi⟩
 have hE2:Ext C w bs w' (bs++bs'):=by
  refine ⟨fun k hk=>⟨⟨hk.1,Nat.lt_of_lt_of_le hk.2.1 hsz,fun i hi=>?_⟩,hbk k hk.2.1⟩,fun i k hk=>⟨?_,jg4 (hbk k (hw.ok i k hk).1)⟩⟩
  ·rcases hat i k hi with ⟨_,h⟩|⟨_,h⟩
   ·exact hk.2.2 i h
   ·have:=(hnew _ _ h).1;have:=hk.2.1;omega
  ·have hi:i<bs.length:=(List.getElem?_eq_some_iff.1 hk).1
   rw [List.getElem?_append_left hi];exact hk
 have hS:∀b,Sf (hctx E 0 [] w (Sf C w bs) []) w' bs' b→Sf C w' (bs++bs') b:=fun b hb=>by
  obtain ⟨q1,q2,q3⟩:=hb
  have q1':Sf C w bs b∨w.heap.size≤b:=q1
  refine ⟨?_,q2,fun i hi=>?_⟩
  ·rcases q1' with h|h
   ·exact h.1
   ·exact .inr (Nat.le_trans hw.fr.size h)
  ·rcases hat i b hi with ⟨_,h⟩|⟨_,h⟩
   ·rcases q1' with h'|h'
    ·exact h'.2.2 i h
    ·have:=(hw.ok i b h).1;omega
   ·exact q3 _ h
 have hwr:WR C (st.h++H'.map (Option.map (suB st.h.length))) (bs++bs') w':=by
  refine ⟨by simp [hlen,h2.len],fun i j b hi hj=>?_,fun i b hi=>?_,fun i kk hk=>?_,?_,hw.gl,hw.g0,hw.tok,hw.mix,hw.s0,fun i b hi=>?_⟩
  ·rcases hat i b hi with ⟨h1,h3⟩|⟨h1,h3⟩<;>rcases hat j b hj with ⟨h4,h5⟩|⟨h4,h5⟩
   ·exact hw.inj i j b h3 h5
   ·have:=(hw.ok i b h3).1;have:=(hnew _ _ h5).1;omega
   ·have:=(hw.ok j b h5).1;have:=(hnew _ _ h3).1;omega
   ·have:=h2.inj _ _ b h3 h5;omega
  ·rcases hat i b hi with ⟨h1,h3⟩|⟨h1,h3⟩
   ·exact ⟨Nat.lt_of_lt_of_le (hw.ok i b h3).1 hsz,(hw.ok i b h3).2⟩
   ·refine ⟨(hnew _ _ h3).2,fun hs=>?_⟩
    have:=hw.s0 b hs
    have:=hw.fr.size
    have:=(hnew _ _ h3).1
    omega
  ·by_cases hi:i<st.h.length
   ·rw [List.getElem?_append_left hi] at hk
    rcases hw.blk i kk hk with ⟨b,hb,hB⟩|⟨T,sz,h0,h3⟩
    ·exact .inl ⟨b,(hE2.ow i b hb).1,hB.ext hE2 (hbk b (hw.ok i b hb).1)⟩
    ·exact .inr ⟨T,sz,h0,by rw [List.getElem?_append_left (by omega)];exact h3⟩
   ·rw [List.getElem?_append_right (by omega),List.getElem?_map,Option.map_eq_some_iff] at hk
    obtain ⟨k0,hk0,hk1⟩:=hk
    cases k0 with
    | none=>simp at hk1
    | some k1 =>
     simp only [Option.map_some,Option.some.injEq] at hk1
     subst hk1
     rw [← hlen] at hk0 ⊢
     rcases h2.blk _ k1 hk0 with ⟨b,hb,hB⟩|⟨T,sz,h0,h3⟩
     ·refine .inl ⟨b,by rw [List.getElem?_append_right (by omega)];exact hb,?_⟩
      cases k1 with
      | one d =>
       obtain ⟨cs,T,fz,e1,e2,e3,e4⟩:=hB
       exact ⟨cs,T,fz,e1,by rw [ku4];exact e2,e3,fun i hi=>by rw [kn4];exact (e4 i hi).su hS⟩
      | row L T sz =>
       obtain ⟨cs,fz,e1,e2,e3,e4,e5⟩:=hB
       exact ⟨cs,fz,e1,e2,e3,e4,fun i j hi hj=>let ⟨x,hx,hr⟩:=e5 i j hi hj;⟨x,hx,hr.mono fun b hb=>⟨hS b hb,rfl⟩⟩⟩
     ·subst h0
      exact .inr ⟨T,sz,rfl,by rw [List.getElem?_append_right (by omega)];exact h3⟩
  ·have hf0:=hw.fr
   exact ⟨hfr.os.trans hf0.os,hfr.tape.trans hf0.tape,hfr.output.trans hf0.output,Nat.le_trans hf0.size hsz,fun k hk=>(hbk k (by have:=hw.s0 k hk;have:=hf0.size;omega)).trans (hf0.block k hk)⟩
  ·obtain ⟨f1,f2⟩:=hw.fix i b hi
   exact ⟨(hE2.ow i b f1).1,(hE2.ow i b f1).2.trans f2⟩
 have:=hxr.su hS
 rw [hlen] at this
 exact Rel.put (st:=⟨st.s,st.h++H'.map (Option.map (suB st.h.length))⟩) ⟨hr.defers,hr.size,fun t=>RV.ext hE2 (hr.slots t),hwr⟩ (jf1 hd) this
theorem ji6 {E:Env}{C:Cx} (hE:EnvC E C) {o:Oper}{st:St}{f:FuncId}{g:Operand}{args:Array Operand}{ts:Array TypeId}{r r':D}{H' H2:List (Option Bk)}{xs:List D} (ho:o.op = .call { callee:=.value g,args:=args,argTypes:=ts }) (hd:dstB C o=true) (hf:fnB C.P f=true)
  (hx:jc7 C st o = .fn f .nil::xs:=by exact dsa) (hp:xs.all jc1=true:=by rfl) (hc:PH E f xs [] r H')
  (e1:H'.map (Option.map (suB st.h.length))=H2:=by simp only [suD,suB,List.map_cons,List.map_nil,Option.map,List.length_cons,List.length_nil,Nat.reduceAdd,Nat.add_zero,hX];exact rfl)
  (e2:suD st.h.length r=r':=by simp only [suD,List.length_cons,List.length_nil,Nat.reduceAdd,Nat.add_zero,hX];exact rfl):DO C o st (St.put ⟨st.s,st.h++H2⟩ o.dst r'):=by
 subst e1 e2
 exact vg9 hE ho hd hf hx hp hc
def frzR (p:Nat) {α:Type} (xs:List α) (z:α) (f:α→D):D→D
 | .own l n T sz=>if l=p then (if n≤xs.length then .sl (xs.take n) z f else .dead) else .own l n T sz
 | .ptr l o=>if l=p then .dead else .ptr l o
 | .osl l o n=>if l=p then .dead else .osl l o n
 | .cons a b=>.cons (frzR p xs z f a) (frzR p xs z f b)
 | .tup ps=>.tup (frzR p xs z f ps)
 | .fn g caps=>.fn g (frzR p xs z f caps)
 | d=>d
def frzK (p:Nat) {α:Type} (xs:List α) (z:α) (f:α→D):Bk→Bk
 | .one d=>.one (frzR p xs z f d)
 | .row L T sz=>.row L T sz
section
variable {p:Nat}{α:Type}{xs:List α}{z:α}{f:α→D}
theorem kg0 (d:D):nc (frzR p xs z f d)=nc d:=by
 induction d with
 | cons a b ih1 ih2=>simp only [frzR,nc,ih1,ih2]
 | own l n T sz=>simp only [frzR];split<;>(try split)<;>rfl
 | ptr l o=>simp only [frzR];split<;>rfl
 | osl l o n=>simp only [frzR];split<;>rfl
 | _=>rfl
theorem kc7 (d:D):∀i,cell (frzR p xs z f d) i=frzR p xs z f (cell d i):=by
 induction d with
 | cons a b ih1 ih2 =>
  intro i
  simp only [frzR,cell,kg0]
  split
  ·exact ih1 i
  ·exact ih2 _
 | own l n T sz=>intro i;simp only [frzR,cell];split<;>(try split)<;>rfl
 | ptr l o=>intro i;simp only [frzR,cell];split<;>rfl
 | osl l o n=>intro i;simp only [frzR,cell];split<;>rfl
 | _=>intro i;rfl
theorem RI.frzR {w:World}{S:Nat→Prop}{x:Value}{d:D} (k:RI w S x d):RI w S x (Proofs.YtmlbhiicmpgjiaaGreatDoor.frzR p xs z f d):=by
 induction k with
 | fn hn _ ih=>exact .fn (by rw [kg0];exact hn) fun i hi=>by rw [kc7];exact ih i hi
 | v h=>exact .v h
 | sl0=>exact .sl0
 | sl sz xs hb hcap hs hx hc _=>exact .sl sz xs hb hcap hs hx hc
 | ip xs hb hx hc _=>exact .ip xs hb hx hc
 | dead h=>exact .dead h
 | pr h k=>exact .pr h k
variable {E:Env}{n:Nat}{w1:World}{A1 S1:Nat→Prop}{fx:Nat→Option Nat}{h:List (Option Bk)}{bs:List (Option Nat)}{W:World}{T sz:Nat}
abbrev A2 (A1:Nat→Prop) (bs:List (Option Nat)) (p:Nat):Nat→Prop:=fun x=>A1 x∨bs[p]?=some (some x)
theorem kc3 {i b:Nat} (h:(bs.set p none)[i]?=some (some b)):i≠p∧bs[i]?=some (some b):=by
 rw [List.getElem?_set] at h
 split at h
 ·split at h<;>cases h
 ·rename_i h0;exact ⟨fun e=>h0 e.symm,h⟩
theorem ki3 {i b:Nat} (hi:i≠p) (h:bs[i]?=some (some b)):(bs.set p none)[i]?=some (some b):=by
 rw [List.getElem?_set,if_neg (fun e=>hi e.symm)];exact h
theorem Sf.frzR {b:Nat} (h:Sf (mkG E n w1 A1 S1 fx) W bs b):Sf (mkG E n w1 (A2 A1 bs p) S1 fx) W (bs.set p none) b :=
 ⟨h.1.imp (fun h=>.inl h) id,h.2.1,fun i hi=>h.2.2 i (kc3 hi).2⟩
theorem R1.frzR (hw:WR (mkG E n w1 A1 S1 fx) h bs W) (hp:h[p]?=some (some (.row (xs.map f) T sz))) {x:Value}{d:D} (k:R1 (mkG E n w1 A1 S1 fx) W bs x d):R1 (mkG E n w1 (A2 A1 bs p) S1 fx) W (bs.set p none) x (Proofs.YtmlbhiicmpgjiaaGreatDoor.frzR p xs z f d):=by
 induction k with
 | im k=>exact .im (k.mono fun b hb=>⟨hb.frzR,rfl⟩).frzR
 | @ptr l o b hb =>
  simp only [Proofs.YtmlbhiicmpgjiaaGreatDoor.frzR]
  split
  ·exact .im (.dead rfl)
  ·rename_i h0;exact .ptr (ki3 h0 hb)
 | @own l m T' sz' b cap hb hs hn hc =>
  simp only [Proofs.YtmlbhiicmpgjiaaGreatDoor.frzR]
  split
  ·rename_i h0
   subst h0
   split
   ·rename_i hm
    rcases hw.blk l _ hp with ⟨b',hb',cs,fz,e1,e2,e3,e4,e5⟩|⟨_,_,_,h0⟩
    ·rw [hb] at hb'
     cases hb'
     have hlen:(xs.take m).length=m:=by rw [List.length_take];omega
     have hat:∀i,i<m→∃hi:i<(xs.map f).length,f ((xs.take m).getD i z)=(xs.map f)[i]:=fun i hi=>by
      have h1:i<xs.length:=by omega
      refine ⟨by simpa using h1,?_⟩
      simp [List.getD_eq_getElem?_getD,List.getElem?_take,hi,h1]
     have key:RI W (Sf (mkG E n w1 (A2 A1 bs l) S1 fx) W (bs.set l none)) (.slice (some ⟨b,0,none⟩) (xs.take m).length cap) (.sl (xs.take m) z f):=by
      refine .sl sz (fun i j=>cs.getD (i*sz+j) undef) ⟨.inl (.inr hb),(hw.ok l b hb).1,fun i hi=>?_⟩ (by rw [hlen];exact hn) (fun i hi=>?_) (fun i j hi hj=>?_) (fun i j hi hj=>?_)
      ·obtain ⟨h1,h2⟩:=kc3 hi
       exact h1 (hw.inj i l b h2 hb)
      ·obtain ⟨h1,h2⟩:=hat i (by omega)
       rw [h2];exact e4 _ (List.getElem_mem h1)
      ·obtain ⟨h1,h2⟩:=hat i (by omega)
       obtain ⟨x,hx,_⟩:=e5 i j h1 hj
       rw [Nat.zero_add]
       unfold World.cell?
       rw [e1]
       simp [Array.getD_eq_getD_getElem?,hx]
      ·obtain ⟨h1,h2⟩:=hat i (by omega)
       obtain ⟨x,hx,hr⟩:=e5 i j h1 hj
       rw [h2]
       simp only [Array.getD_eq_getD_getElem?,hx,Option.getD_some]
       exact hr.mono fun b hb=>⟨hb.frzR,rfl⟩
     rw [hlen] at key
     exact .im key
    ·rw [hb] at h0;cases h0
   ·exact .im (.dead rfl)
  ·rename_i h0;exact .own (ki3 h0 hb) hs hn hc
 | @own0 l T' sz' =>
  simp only [Proofs.YtmlbhiicmpgjiaaGreatDoor.frzR]
  split
  ·split
   ·exact .im .sl0
   ·exact .im (.dead rfl)
  ·exact .own0
 | @osl0 l o a cap =>
  simp only [Proofs.YtmlbhiicmpgjiaaGreatDoor.frzR]
  split
  ·exact .im (.dead rfl)
  ·exact .osl0
 | @osl l o m b cap hb hn =>
  simp only [Proofs.YtmlbhiicmpgjiaaGreatDoor.frzR]
  split
  ·exact .im (.dead rfl)
  ·rename_i h0;exact .osl (ki3 h0 hb) hn
 | fn hn _ ih=>exact .fn (by rw [kg0];exact hn) fun i hi=>by rw [kc7];exact ih i hi
theorem RV.frzR (hw:WR (mkG E n w1 A1 S1 fx) h bs W) (hp:h[p]?=some (some (.row (xs.map f) T sz))) {x:Value}{d:D} (ht:js0 d=true) (k:RV (mkG E n w1 A1 S1 fx) W bs x d):RV (mkG E n w1 (A2 A1 bs p) S1 fx) W (bs.set p none) x (Proofs.YtmlbhiicmpgjiaaGreatDoor.frzR p xs z f d):=by
 cases d with
 | tup ps=>cases ht
 | arr kk m g=>obtain ⟨cs,a,b,c⟩:=k;exact ⟨cs,a,b,fun i hi=>R1.frzR (z:=z) hw hp (c i hi)⟩
 | nil=>exact k
 | cons a b =>
  obtain ⟨cs,h1,h2,h3⟩:=k
  refine ⟨cs,h1,?_,fun i hi=>?_⟩
  ·show cs.size=nc (Proofs.YtmlbhiicmpgjiaaGreatDoor.frzR p xs z f (.cons a b))
   rw [kg0];exact h2
  ·show R1 _ W _ cs[i] (cell (Proofs.YtmlbhiicmpgjiaaGreatDoor.frzR p xs z f (.cons a b)) i)
   rw [kc7];exact R1.frzR (z:=z) hw hp (h3 i hi)
 | dead=>trivial
 | own l m T' sz' =>
  have:=R1.frzR (z:=z) hw hp (show R1 _ W bs x (.own l m T' sz') from k)
  simp only [Proofs.YtmlbhiicmpgjiaaGreatDoor.frzR] at this ⊢
  split<;>(try split)<;>simp_all<;>first|trivial|exact this
 | ptr l o =>
  have:=R1.frzR (z:=z) hw hp (show R1 _ W bs x (.ptr l o) from k)
  simp only [Proofs.YtmlbhiicmpgjiaaGreatDoor.frzR] at this ⊢
  split<;>simp_all<;>first|trivial|exact this
 | osl l o m =>
  have:=R1.frzR (z:=z) hw hp (show R1 _ W bs x (.osl l o m) from k)
  simp only [Proofs.YtmlbhiicmpgjiaaGreatDoor.frzR] at this ⊢
  split<;>simp_all<;>first|trivial|exact this
 | v y=>exact R1.frzR (z:=z) hw hp (show R1 _ W bs x (.v y) from k)
 | sl l z' e=>exact R1.frzR (z:=z) hw hp (show R1 _ W bs x (.sl l z' e) from k)
 | ip d=>exact R1.frzR (z:=z) hw hp (show R1 _ W bs x (.ip d) from k)
 | pr p=>exact R1.frzR (z:=z) hw hp (show R1 _ W bs x (.pr p) from k)
 | fn g c=>exact R1.frzR (z:=z) hw hp (show R1 _ W bs x (.fn g c) from k)
end
theorem qc1 {p:Nat}{α:Type}{xs:List α}{z:α}{f:α→D}:∀(l:List (Nat×D)) (t:Nat),look (l.map fun q=>(q.1,frzR p xs z f q.2)) t=frzR p xs z f (look l t)
 | [],_=>rfl
 | (k,d)::l,t=>by
  simp only [List.map_cons,look]
  split
  ·rfl
  ·exact qc1 l t
theorem kt9:∀{l:List (Nat×D)},l.all (fun p=>js0 p.2)=true→∀t,js0 (look l t)=true
 | [],_,t=>rfl
 | (k,d)::l,h,t=>by
  simp only [List.all_cons,Bool.and_eq_true] at h
  simp only [look]
  split
  ·exact h.1
  ·exact kt9 h.2 t
theorem kc5 {E:Env}{n:Nat}{w0:World}{A0:Nat→Prop}{r:Option Nat}{c:Code}{Q:Exit→PUnit→St→Prop}{g:PUnit}{l l':List (Nat×D)}{h h':List (Option Bk)} (p:Nat) {α:Type} (xs:List α) (z:α) (f:α→D) {T sz:Nat}
  (hp:h[p]?=some (some (.row (xs.map f) T sz))) (ht:l.all (fun p=>js0 p.2)=true) (el:l.map (fun q=>(q.1,frzR p xs z f q.2))=l') (eh:(h.map (Option.map (frzK p xs z f))).set p none=h') (k:DX (MdFn E n [] w0 A0 []) r c Q g (mk l' h')):DX (MdFn E n [] w0 A0 []) r c Q g (mk l h):=by
 subst el eh
 rintro bs a W ⟨w1,A1,S1,f0,marks,a0,e,hr,ok⟩
 have hw:=hr.wr
 have hfx:∀i,fxP [] f0 i=none:=fun i=>by simp [fxP]
 refine k (bs.set p none) a W ⟨w1,A2 A1 bs p,S1,f0,marks,a0,e,⟨hr.defers,hr.size,fun t=>?_,⟨?_,fun i j b hi hj=>?_,fun i b hi=>?_,fun i kk hk=>?_,hw.fr,fun b hb=>⟨(hw.gl b hb).1,.inl (hw.gl b hb).2⟩,hw.g0,hw.tok,hw.mix,hw.s0,fun i b hi=>?_⟩⟩,⟨ok.fr,ok.s1,fun b hb=>?_,fun D hD=>?_,ok.nd,ok.pn⟩⟩
 ·show RV _ W _ _ (look (l.map fun q=>(q.1,frzR p xs z f q.2)) t)
  rw [qc1]
  exact RV.frzR hw hp (kt9 ht t) (hr.slots t)
 ·have:=hw.len
  simp only [mk] at this
  simp [mk,this]
 ·exact hw.inj i j b (kc3 hi).2 (kc3 hj).2
 ·exact hw.ok i b (kc3 hi).2
 ·simp only [mk] at hk
  rw [List.getElem?_set] at hk
  split at hk
  ·split at hk<;>cases hk
  ·rename_i hne
   rw [List.getElem?_map,Option.map_eq_some_iff] at hk
   obtain ⟨k0,hk0,hk1⟩:=hk
   cases k0 with
   | none=>cases hk1
   | some k1 =>
    simp only [Option.map_some,Option.some.injEq] at hk1
    subst hk1
    rcases hw.blk i k1 hk0 with ⟨b,hb,hB⟩|⟨T',sz',h0,h3⟩
    ·refine .inl ⟨b,ki3 (fun e=>hne e.symm) hb,?_⟩
     cases k1 with
     | one d =>
      obtain ⟨cs,T',fz,e1,e2,e3,e4⟩:=hB
      exact ⟨cs,T',fz,e1,by rw [kg0];exact e2,e3,fun i hi=>by rw [kc7];exact (e4 i hi).frzR hw hp⟩
     | row L T' sz' =>
      obtain ⟨cs,fz,e1,e2,e3,e4,e5⟩:=hB
      exact ⟨cs,fz,e1,e2,e3,e4,fun i j hi hj=>let ⟨x,hx,hr⟩:=e5 i j hi hj;⟨x,hx,hr.mono fun b hb=>⟨hb.frzR,rfl⟩⟩⟩
    ·subst h0
     refine .inr ⟨T',sz',rfl,?_⟩
     rw [List.getElem?_set,if_neg hne];exact h3
 ·rw [show (mkG E n w1 (A2 A1 bs p) S1 (fxP [] f0)).fx i=fxP [] f0 i from rfl,hfx] at hi;cases hi
 ·rcases hb with hb|hb
  ·exact ok.a1 b hb
  ·refine .inr (Nat.le_of_not_lt fun hlt=>(hw.ok p b hb).2 (ok.s1 b ⟨hlt,by simp⟩))
 ·obtain ⟨q1,q2,q3,q4⟩:=ok.mrk D hD
  refine ⟨q1,fun h=>?_,q3,q4⟩
  rcases h with h|h
  ·exact q2 h
  ·exact (hw.ok p D h).2 q1

theorem js8 {E:Env}{f:FuncId}{args:List D}{d0 d1 r:D} (h:PH E f (.ptr 0 0::args) [some (.one d0)] r [some (.one d1)]) (h1:jc1 d1=true) (hr:jc1 r=true):PM E f d0 args d1 r:=by
 intro w S b T fz vs hG hS hg hSb hst hv
 obtain ⟨cs,g1,g2,g3,g4⟩:=hst
 have hblt:b<w.heap.size:=(Array.getElem?_eq_some_iff.1 g1).1
 have hSf:∀k,S k→Sf (hctx E 0 [0] w S [some b]) w [some b] k:=fun k hk=>⟨.inl hk,hS k hk,fun i hi=>by
  rcases i with _|i
  ·simp at hi;subst hi;exact hSb hk
  ·simp at hi⟩
 have hone:∀(i k:Nat),([some b]:List (Option Nat))[i]?=some (some k)→i=0∧k=b:=fun i k hi=>by
  rcases i with _|i
  ·simp at hi;exact ⟨rfl,hi.symm⟩
  ·simp at hi
 have hW:WR (hctx E 0 [0] w S [some b]) [some (.one d0)] [some b] w:=by
  refine ⟨rfl,fun i j k hi hj=>by rw [(hone i k hi).1,(hone j k hj).1],fun i k hi=>?_,fun i k hk=>?_,⟨rfl,rfl,rfl,Nat.le_refl _,fun _ _=>rfl⟩,fun k hk=>⟨⟨hS k (hg k hk),fun i hi=>?_⟩,hg k hk⟩,hG.gl,hG.tok,hG.mix,fun k hk=>hk.1,fun i k hi=>?_⟩
  ·obtain ⟨rfl,rfl⟩:=hone i k hi
   exact ⟨hblt,fun hh=>hh.2 0 rfl⟩
  ·rcases i with _|i
   ·simp at hk
    subst hk
    exact .inl ⟨b,rfl,cs,T,fz,g1,g2,g3,fun i hi=>.im ((g4 i hi).mono fun k hk=>⟨hSf k hk,rfl⟩)⟩
   ·simp at hk
  ·obtain ⟨_,rfl⟩:=hone i k hi
   exact hSb (hg _ hk)
  ·simp only [mkG,fxP] at hi
   split at hi
   ·rename_i hc
    obtain rfl:i=0:=by simpa using hc
    simp at hi
    subst hi
    exact ⟨rfl,rfl⟩
   ·cases hi
 have hcall:=h 0 w S [some b] (#[.pointer (some ⟨b,0,none⟩)]++vs) (fun k hk=>⟨hS k hk,fun i hi=>by obtain ⟨_,rfl⟩:=hone i k hi;exact hSb hk⟩) hW (by
  rw [Array.toList_append]
  exact .cons (R1.ptr rfl) (All2.imp (K:=fun a b=>a=b) (fun a b c h1 h2=>by subst h2;exact RG.mono (fun x d hr=>.im (hr.mono fun k hk=>⟨hSf k hk,rfl⟩)) h1) hv (All2.reflP fun _ _=>rfl)))
 refine hcall.mono fun e w' ⟨x,bs',he,h2,hxr⟩=>?_
 have hfr:=h2.fr
 obtain ⟨f1,f2⟩:=h2.fix 0 b (by simp [mkG,fxP])
 obtain ⟨cs',T',fz',k1,k2,k3,k4⟩:=h2.at (l:=0) rfl f1
 have hT:T'=T:=by
  have a1:w'.shape? b=some (T',cs'.size):=by unfold World.shape?;rw [k1]
  have a2:w.shape? b=some (T,cs.size):=by unfold World.shape?;rw [g1]
  have a3:w'.shape? b=w.shape? b:=f2
  rw [a1,a2] at a3
  simp at a3
  exact a3.1
 subst hT
 have hS':∀k,Sf (hctx E 0 [0] w S [some b]) w' bs' k→((S k∨w.heap.size≤k)∧k<w'.heap.size∧k≠b)∧w'.heap[k]?=w'.heap[k]?:=fun k hk=>⟨⟨hk.1,hk.2.1,fun e=>hk.2.2 0 (by rw [e];exact f1)⟩,rfl⟩
 refine ⟨x,he,⟨hfr.os,hfr.tape,hfr.output,hfr.size,fun k hk=>hfr.block k ⟨hk.1,fun i hi=>hk.2 (hone i k hi).2⟩⟩,f2,⟨fz',cs',k1,k2,k3,fun i hi=>((k4 i hi).pure (jk6 h1 i)).mono hS'⟩,?_⟩
 exact RG.imp hr (fun _ _ hp' h=>(h.pure hp').mono hS') hxr
theorem WeakX.takeP {E:Env}{n:Nat}{pins:List Nat}{l:List (Nat×D)}{h h':List (Option Bk)} (k:Nat) (hpk:pins.all (Nat.blt · k)=true) (hs:l.all (fun p=>ltB k p.2)=true) (hb:(h.take k).all (ltBk k)=true) (eh:h.take k=h'):WeakX E n pins (mk l h) (mk l h'):=fun _ _ _ _=>eh ▸ Weak.take k (fun i b hi=>by
 simp only [mkG,fxP] at hi
 split at hi
 ·rename_i hc
  have:=List.all_eq_true.1 hpk i (by simpa using hc)
  simpa using this
 ·cases hi) hs hb
def kv5 (md:Region.Mode) (ops:Array Oper) (n:Nat):Bool :=
 (List.range n).all fun i=>i==0||(List.range (n+1)).any fun j=>decide (i<j)&&Region.waitsFor md ops j i
def kk8 (md:Region.Mode) (ops:Array Oper) (n:Nat):Bool :=
 Region.noSelect ops&&decide (0<n)&&decide (n<ops.size)&&kv5 md ops n&&Region.chainB md ops n&&(Region.ready md ops (Array.replicate ops.size false)).contains 0&&Region.free md ops (Array.replicate ops.size false) 0 &&
  Region.lexHead md ops (ops.size-n) (n-1) 1 ((Array.replicate ops.size false).setIfInBounds 0 true)
section
variable {md:Region.Mode}{ops:Array Oper}
theorem kp3 {n:Nat}{listed:Array Bool} (hs:kv5 md ops n=true) (hc:Region.chainB md ops n=true) (hn:n<ops.size) (inv:HeadInv md ops n listed) :
  ∀(d i:Nat),n-i=d→1≤i→i<n→listed.getD i true=false→∀t,n≤t→t ∉ Region.ready md ops listed:=by
 intro d
 induction d using Nat.strongRecOn with
 | _ d ih =>
  intro i hd hi1 hi hun t ht hr
  obtain ⟨_,ot,hot,hall⟩:=mem_ready.1 hr
  have htlt:t<ops.size:=(Array.getElem?_eq_some_iff.1 hot).1
  by_cases htn:t=n
  ·subst htn
   have h1:=List.all_eq_true.1 hs i (List.mem_range.2 hi)
   simp only [Bool.or_eq_true,beq_iff_eq] at h1
   rcases h1 with h1|h1
   ·omega
   obtain ⟨j,hj,hj2⟩:=List.any_eq_true.1 h1
   simp only [Bool.and_eq_true,decide_eq_true_eq] at hj2
   obtain ⟨oj,hoj,e,he,hb,hon⟩:=Region.waitsFor_spec hj2.2
   have hjle:j≤t:=by have:=List.mem_range.1 hj;omega
   by_cases hjt:j=t
   ·subst hjt
    have:oj=ot:=Option.some.inj (hoj.symm.trans hot)
    subst this
    have h2:=hall e he hb
    rw [hon,getD_both hun] at h2
    cases h2
   ·cases hl:listed.getD j false with
    | true =>
     have h2:=inv.closed j oj hoj hl e he hb
     rw [hon,getD_both hun] at h2
     cases h2
    | false =>
     have hjs:j<listed.size:=by rw [inv.size];omega
     exact ih (t-j) (by omega) j rfl (by omega) (by omega) (getD_in hjs hl) t (Nat.le_refl _) hr
  ·have h1:=List.all_eq_true.1 hc t (List.mem_range.2 htlt)
   simp only [Bool.or_eq_true,decide_eq_true_eq] at h1
   rcases h1 with h1|h1
   ·omega
   ·obtain ⟨o',ho',e,he,hb,hon⟩:=Region.waitsFor_spec h1
    have:o'=ot:=Option.some.inj (ho'.symm.trans hot)
    subst this
    have h2:=hall e he hb
    rw [hon,getD_both (inv.tail (t-1) (by omega) (by omega))] at h2
    cases h2
variable {C:Cx}
theorem qh8 {n i:Nat}{oi:Oper}{d:D}{L:Array Bool→St→Prop} (hi:ops[i]?=some oi)
  (hs:kv5 md ops n=true) (hc:Region.chainB md ops n=true) (hn:n<ops.size) (hi1:1≤i) (hin:i<n)
  (hdone:∀listed st,L listed st→∀j ∈ Region.ready md ops listed,n≤j) :
  ∀(f:Nat) (listed:Array Bool) (st:St),HeadInv md ops n listed →
   (∀j oj,ops[j]?=some oj→j≠i→listed.getD j true=false→(∀e ∈ oj.after,Region.binds md e=true→e.on≠i)→oi.apart ops oj=true) →
   i ∈ Region.ready md ops listed→YD C ops oi d st →
   jz6 C md ops n L f (listed.setIfInBounds i true) (st.put oi.dst d)→jz6 C md ops n L (f+1) listed st:=by
 intro f
 induction f with
 | zero =>
  intro listed st inv _ hr hy H
  have hun:=(mem_ready.1 hr).1
  refine ⟨fun h=>(by rw [h] at hr;cases hr),fun j hj=>?_⟩
  have hjn:j<n:=(Nat.lt_or_ge j n).elim id fun h=>absurd hj (kp3 hs hc hn inv _ i rfl hi1 hin hun j h)
  refine ⟨hjn,?_⟩
  by_cases hji:j=i
  ·subst hji;exact hy.dOp hi H
  ·have:=hdone _ _ H j (ready_mono hj hji)
   omega
 | succ f ih =>
  intro listed st inv hfree hr hy H
  have hun:=(mem_ready.1 hr).1
  refine ⟨fun h=>(by rw [h] at hr;cases hr),fun j hj=>?_⟩
  have hjn:j<n:=(Nat.lt_or_ge j n).elim id fun h=>absurd hj (kp3 hs hc hn inv _ i rfl hi1 hin hun j h)
  refine ⟨hjn,?_⟩
  by_cases hji:j=i
  ·subst hji;exact hy.dOp hi H
  ·have h1:=(H.2 j (ready_mono hj hji)).2
   obtain ⟨hjun,oj,hoj,hall⟩:=mem_ready.1 hj
   have hnot:∀e ∈ oj.after,Region.binds md e=true→e.on≠i:=fun e he hb heq=>by
    have h2:=hall e he hb
    rw [heq,getD_both hun] at h2
    cases h2
   have h2:=kx2 hoj (hfree j oj hoj hji hjun hnot) hy h1
   have hfree':∀k ok,ops[k]?=some ok→k≠i→(listed.setIfInBounds j true).getD k true=false →
     (∀e ∈ ok.after,Region.binds md e=true→e.on≠i)→oi.apart ops ok=true:=fun k ok hk hki hunk hno=>by
    refine hfree k ok hk hki ?_ hno
    by_cases hjk:j=k
    ·subst hjk;exact hjun
    ·rw [getD_set_ne true hjk] at hunk;exact hunk
   refine kp9 (fun st' h3=>ih (listed.setIfInBounds j true) st' (inv.set hj hjn) hfree' (ready_mono hr (Ne.symm hji)) h3.1 ?_) h2
   rw [Array.setIfInBounds_comm _ _ hji]
   exact h3.2
theorem kt3 {n g:Nat}{Lq:St→Prop} (hs:kv5 md ops n=true) (hc:Region.chainB md ops n=true) (hn:n<ops.size) :
  ∀(l:List Oper) (k:Nat) (listed:Array Bool) (st:St),1≤k→(∀j,j<l.length→l[j]?=ops[k+j]?)→k+l.length=n→HeadInv md ops n listed →
  Region.lexHead md ops g l.length k listed=true→DRq C ops Lq l st →
  jz6 C md ops n (fun listed' st'=>Region.seqB md ops g n listed'=true∧Lq st') l.length listed st
 | [],k,listed,st,_,_,hk,_,hB,h=>by
  have:k=n:=by simpa using hk
  subst this
  exact ⟨by simpa [Region.lexHead] using hB,h⟩
 | o::l,k,listed,st,hk1,hl,hk,inv,hB,h=>by
  have h0:ops[k]?=some o:=by simpa using (hl 0 (by simp)).symm
  simp only [List.length_cons,Region.lexHead,Bool.and_eq_true] at hB
  obtain ⟨⟨hr,hf⟩,hB'⟩:=hB
  have hkn:k<n:=by simp only [List.length_cons] at hk;omega
  have hr':k ∈ Region.ready md ops listed:=by simpa using hr
  obtain ⟨d,h1,h2,hK⟩:=h
  exact qh8 h0 hs hc hn hk1 hkn (fun listed' a' hL=>seqB_ready hL.1) l.length listed st inv (Region.free_spec h0 hf) hr' ⟨h1,h2⟩
   (kt3 hs hc hn l (k+1) _ _ (by omega) (fun j hj=>by have:=hl (j+1) (by simp;omega);simpa [Nat.add_assoc,Nat.add_comm 1 j] using this) (by simp only [List.length_cons] at hk;omega) (inv.set hr' hkn) hB' hK)
end
theorem vi0 {df:List Deferred}{C:Cx}{Q:St→Prop}{st:St}{id:Nat}{o0:Oper}{rest:List Oper}{t s:Nat} (n:Nat) (h0:o0.op = .move (.tmp s)) (hg:o0.guard=none) (hd:o0.dst=some t) (ht:Nat.blt t C.n=true)
  (hB:kk8 .any (o0::rest).toArray n=true) (h:DRq C (o0::rest).toArray (fun st'=>DR C (o0::rest).toArray Q ((o0::rest).drop n) st') (((o0::rest).take n).drop 1) (st.put (some t) (st.s s))) :
  DV none df C (.region id (o0::rest).toArray true) (fun e st=>e = .normal∧Q st) st:=fun bs a w hr=>by
 simp only [kk8,Bool.and_eq_true,decide_eq_true_eq] at hB
 obtain ⟨⟨⟨⟨⟨⟨⟨hsel,hn0⟩,hn⟩,hs⟩,hc⟩,hr0⟩,hf0⟩,hlex⟩:=hB
 generalize hl:o0::rest=l at *
 have hn':n<l.length:=by simpa using hn
 have htl:((l.take n).drop 1).length=n-1:=by simp;omega
 have hdl:(l.drop n).length=l.toArray.size-n:=by simp
 have hi0:l.toArray[0]?=some o0:=by rw [← hl];rfl
 have inv0:HeadInv .any l.toArray n (Array.replicate l.toArray.size false) :=
  ⟨by simp,fun j oj _ hl=>(by rw [getD_replicate_false] at hl;cases hl),fun t _ ht=>getD_in (by simpa using ht) (getD_replicate_false _ _)⟩
 have hr0':0 ∈ Region.ready .any l.toArray (Array.replicate l.toArray.size false):=by simpa using hr0
 have H:=kt3 (md:=.any) (g:=l.toArray.size-n) hs hc hn ((l.take n).drop 1) 1 _ _ (Nat.le_refl _) (fun j hj=>by
  have hj':j<n-1:=by rw [htl] at hj;exact hj
  simp only [List.getElem?_drop,List.getElem?_take]
  rw [if_pos (by omega)]
  simp) (by rw [htl];omega) (inv0.set hr0' hn0) (by rw [htl];exact hlex) h
 refine wpIn_region_any hr.wr.mix ?_
 have htn:t<C.n:=by simpa using ht
 have hr1:Rel C (st.put (some t) (st.s s)) bs (a.put (some t) (a.eval (.tmp s))) { w with drawn:=w.drawn+1 }:=hr.drew.put (fun u hu=>by cases hu;exact htn) (jg5 hr.drew (.tmp s))
 have:=jt8 (r:=none) (n:=3) (df:=df) (Q:=fun e a' w'=>∃st' bs' a0,a'=dfs a0 df∧Rel C st' bs' a0 w'∧e = .normal∧Q st') (bs:=bs) (g:=l.toArray.size-n) (fun listed st' a' w' hr' hL=>by
  have:=js4 (r:=none) (n:=3) (C:=C) (md:=.any) (Q:=fun e a' w'=>∃st' bs' a0,a'=dfs a0 df∧Rel C st' bs' a0 w'∧e = .normal∧Q st') (l.drop n) n listed (dfs a' df) w' (fun j=>by simp [List.getElem?_drop]) (by rw [hdl];exact hL.1) (jn7 (fun st bs a w h1 h2=>⟨st,bs,a,rfl,h1,rfl,h2⟩) _ st' bs a' w' hr' hL.2)
  rwa [hdl] at this) _ _ _ _ _ hr1 H
 rw [htl,show n-1+(l.toArray.size-n)=l.toArray.size-1 by omega] at this
 have key:=wpAnyIn_first (F:=FF none) (n:=3) (P:=C.P) (md:=.any) (Q:=fun e a' w'=>∃st' bs' a0,a'=dfs a0 df∧Rel C st' bs' a0 w'∧e = .normal∧Q st') (oi:=o0) (v:=a.eval (.tmp s)) rfl hi0 (Region.noSelect_spec hsel)
  (fun c a w ⟨_,_,_,_,_,h,_⟩=>by cases h) (l.toArray.size-1) (Array.replicate l.toArray.size false) (dfs a df) { w with drawn:=w.drawn+1 } (Region.free_spec hi0 hf0) hr0'
  ⟨.inl ⟨by simp [Region.wanted,hg],fun w=>by simp [execOp,h0,dfs,Act.eval]⟩,fun w=>by simp [Oper.about,h0]⟩ (by rw [hd,jn6];exact this)
 rw [show l.toArray.size-1+1=l.toArray.size by omega] at key
 exact key
theorem vr6 {E:Env}{n:Nat}{pins:List Nat}{γ:Type 1}{M:Md E n pins γ}{Q:Exit→γ→St→Prop}{g:γ}{id:Nat}{o0:Oper}{rest:List Oper}{t s:Nat}{l:List (Nat×D)}{h:List (Option Bk)} (live:List Nat) (m:Nat) (h0:o0.op = .move (.tmp s)) (hg:o0.guard=none) (hd:o0.dst=some t) (ht:Nat.blt t n=true)
  (hB:kk8 .any (o0::rest).toArray m=true) (k:∀(w0:World) (A S0:Nat→Prop) (f:Nat→Option Nat),DRq (mkG E n w0 A S0 (fxP pins f)) (o0::rest).toArray (fun st'=>DR (mkG E n w0 A S0 (fxP pins f)) (o0::rest).toArray (KL live (Q .normal g)) ((o0::rest).drop m) st') (((o0::rest).take m).drop 1) ⟨upd (look l) t (look l s),h⟩) :
  DX M none (.region id (o0::rest).toArray true) Q g (mk l h):=fun bs a W hr=>by
 obtain ⟨w0,A,S0,f,a0,df,rfl,hR,hback⟩:=M.lift hr
 refine wpIn_mono (vi0 (df:=df) (Q:=fun st'=>KL live (Q .normal g) st') m h0 hg hd ht hB (k w0 A S0 f) bs a0 W hR) fun e a' w' ⟨st',bs',a1,e1,h1,h2,h3⟩=>?_
 subst e1;subst h2
 obtain ⟨bs2,h4⟩:=Weak.pick live bs' a1 w' h1
 exact ⟨g,_,bs2,hback _ _ _ _ h4,h3 _ rfl⟩
theorem kf0 {E:Env}{f:FuncId}{fn:Func}{c:Code}{n:Nat}{rs:List ResultVar}{args:List D}{H':List (Option Bk)}{l:List (Nat×D)}{r:D} (hf:E.P.funcs[f]?=some fn) (hb:fn.body=some c) (hN:fn.ntmps=n) (hR:fn.results=rs.toArray) (hn:Nat.ble args.length n=true) (hl:jl0 0 args=l)
  (hbody:∀(w0:World) (A:Nat→Prop),DX (MdFn E n [] w0 A []) none c (kh8 E n [] rs (fun h r0=>FinH E n [] h r0 r H')) ⟨⟩ (mk l [])):PH E f args [] r H':=by
 subst hN
 subst hl
 intro m w A bs vs hA hw hv
 have hbs:bs=[]:=List.eq_nil_of_length_eq_zero hw.len
 subst hbs
 have hn:args.length≤fn.ntmps:=by simpa using hn
 obtain ⟨hlen,_⟩:=hv.get
 rw [Array.length_toList] at hlen
 have h0:Rel (hctx E fn.ntmps [] w A []) (mk (jl0 0 args) []) [] { tmps:=vs++Array.replicate (fn.ntmps-vs.size) undef,defers:=[] } w :=
  ⟨rfl,by simp [mkG];omega,fun t=>jv0 (All2.imp (K:=fun a b=>a=b) (fun a b c h1 h2=>by subst h2;exact h1.cn) hv (All2.reflP fun _ _=>rfl)) t,hw.cn⟩
 have hX:=hbody w A
 rw [show rs=fn.results.toList by rw [hR]] at hX
 refine (kn7 hf hb h0 hX).mono fun e w' ⟨x,h,r,bs',e1,h1,h2,h3⟩=>?_
 obtain ⟨bs2,h4,h5⟩:=h3 _ _ _ _ _ _ _ h1 h2
 exact ⟨x,bs2,e1,h4.cn,h5.cn⟩
theorem qr3 {C:Cx}{o:Oper}{st:St}{x y:Operand}{t u el l off n:Nat}{e:TE}{b1 b2:Nat}{z1:D}{k:IntKind}{N:Nat}{f:Nat→Int}{es:List D}{p:Prop} (m:Nat) (ho:o.op = .call { callee:=.builtin .copy,args:=#[x,y],argTypes:=#[t,u] }) (hd:dstB C o=true) (hT:C.T t=some ⟨.slice el,b1,b2,z1⟩) (hE:C.T el=some e) (hsz:e.sz=1)
  (hx:evD C st x = .osl l off n:=by exact dsg) (hl:st.h[l]?=some (some (.one (.arr k N f))):=by exact dsg) (hy:srcD st.h (evD C st y)=some (p,es):=by exact dsg)
  (hp:p:=by (repeat' (with_reducible apply And.intro))<;>first|(with_reducible exact True.intro)|omega|exact lnx|(intro d hd;simp only [List.mem_cons,List.not_mem_nil,or_false] at hd;(first|(subst hd;first|trivial|exact ⟨rfl,rfl⟩)|(rcases hd with rfl|rfl<;>first|trivial|exact ⟨rfl,rfl⟩)|(rcases hd with rfl|rfl|rfl<;>first|trivial|exact ⟨rfl,rfl⟩)|(rcases hd with rfl|rfl|rfl|rfl<;>first|trivial|exact ⟨rfl,rfl⟩)|(rcases hd with rfl|rfl|rfl|rfl|rfl<;>first|trivial|exact ⟨rfl,rfl⟩)|(rcases hd with rfl|rfl|rfl|rfl|rfl|rfl<;>first|trivial|exact ⟨rfl,rfl⟩)|(rcases hd with rfl|rfl|rfl|rfl|rfl|rfl|rfl<;>first|trivial|exact ⟨rfl,rfl⟩)|(rcases hd with rfl|rfl|rfl|rfl|rfl|rfl|rfl|rfl<;>first|trivial|exact ⟨rfl,rfl⟩)|(rcases hd with rfl|rfl|rfl|rfl|rfl|rfl|rfl|rfl|rfl<;>first|trivial|exact ⟨rfl,rfl⟩)))|(intro d hd;simp only [List.mem_map,List.mem_cons,List.not_mem_nil,or_false] at hd;obtain ⟨i,_,rfl⟩:=hd;first|trivial|exact ⟨rfl,rfl⟩)|(intro d hd;simp only [List.mem_append,List.mem_map,List.mem_cons,List.not_mem_nil,or_false] at hd;rcases hd with ⟨i,_,rfl⟩|rfl<;>first|trivial|exact ⟨rfl,rfl⟩)|(intro i hi;rfl)|rfl) (hm:m=min es.length n:=by exact lnx) (hk:∀d ∈ es,isK k d:=by (intro d hd;simp only [List.mem_map] at hd;obtain ⟨i,_,rfl⟩:=hd;rfl)) (hN:off+n≤N:=by omega) (hn:0<n:=by omega) :
  DO C o st (St.put { st with h:=st.h.set l (some (.one (.arr k N (cpyI f off m (fun i=>jv2 (es.getD i .dead)))))) } o.dst (.v (.int .i64 (m:Int)))):=qp6 ho hd hT hE hsz hx hl hy hp hm hk hN hn
theorem qh6 (l:List UInt8) (hl:32≤l.length):cpyI (fun _=>0) 0 32 (fun i=>jv2 ((l.map jc0).getD i .dead))=fun i=>(((l.take 32).getD i 0).toNat:Int):=by
 funext i
 simp only [cpyI,Nat.zero_le,true_and,Nat.zero_add,Nat.sub_zero,List.getD_eq_getElem?_getD,List.getElem?_map,List.getElem?_take]
 by_cases h:i<32
 ·have h1:i<l.length:=by omega
  simp [h,h1,jc0,jv2]
 ·simp [h]
def eqSs (T:Nat→Option TE) (rec:Nat→D→D→Option (Prop×Bool)):List (Nat×Nat)→D→D→Option (Prop×Bool)
 | [],_,_=>some (True,true)
 | (ft,off)::fs,a,b=>match T ft with
  | some e=>match sub (aggT e.d) e.sz true a off,sub (aggT e.d) e.sz true b off with
   | some (p,x),some (q,y)=>match rec ft x y,eqSs T rec fs a b with
    | some (p1,r),some (p2,r2)=>some (p∧q∧p1∧p2,r&&r2)
    | _,_=>none
   | _,_=>none
  | none=>none
def eqS (T:Nat→Option TE):Nat→Nat→D→D→Option (Prop×Bool)
 | 0,_,_,_=>none
 | m+1,t,a,b=>match T t with
  | some ⟨.int _,_,_,_⟩=>match a,b with
   | .v (.int k x),.v (.int k' y)=>if k=k' then some (True,decide (x=y)) else none
   | _,_=>none
  | some ⟨.bool,_,_,_⟩=>match a,b with
   | .v (.bool x),.v (.bool y)=>some (True,x==y)
   | _,_=>none
  | some ⟨.str,_,_,_⟩=>match a,b with
   | .v (.string x),.v (.string y)=>some (True,decide (L x=L y))
   | _,_=>none
  | some ⟨.array n el,_,_,_⟩=>match T el,a,b with
   | some ⟨.int _,1,_,_⟩,.arr k p f,.arr k' p' g=>if k=k'∧p=n∧p'=n then some (True,decide ((List.range n).map f=(List.range n).map g)) else none
   | _,_,_=>none
  | some ⟨.struct fs,_,_,_⟩=>if (aggB a&&aggB b)=true then eqSs T (eqS T m) fs a b else none
  | _=>none
def okEq (P:Program):Nat→Nat→Bool
 | 0,_=>false
 | m+1,t=>match P.underlying t with
  | some (.struct fs)=>!P.stoodInHeld t&&fs.toList.all fun f=>f.name != "_" && okEq P m f.type
  | some _=>true
  | none=>false
section
variable {C:Cx}{h:List (Option Bk)}{bs:List (Option Nat)}{w:World}
theorem ql8 (hw:WR C h bs w) {dd:Nat}{rec:Nat→D→D→Option (Prop×Bool)}{m:Nat} (hrec:∀t a b p r x y,okEq C.P m t=true→rec t a b=some (p,r)→p→RV C w bs x a→RV C w bs y b→(Op.equalIn dd t x y).run C.P w = .ok r w) :
  ∀(fs:List Field) (a b:D) (xs ys:Array Value) (p:Prop) (r:Bool),(fs.all fun f=>f.name != "_" && okEq C.P m f.type)=true→xs.size=nc a→ys.size=nc b→(∀i (hi:i<xs.size),R1 C w bs xs[i] (cell a i))→(∀i (hi:i<ys.size),R1 C w bs ys[i] (cell b i)) →
   eqSs C.T rec (fs.map fun f=>(f.type,f.offset)) a b=some (p,r)→p→(Op.eqFields dd xs ys fs).run C.P w = .ok r w
 | [],_,_,_,_,p,r,_,_,_,_,_,he,_=>by
  simp only [List.map_nil,eqSs,Option.some.injEq,Prod.mk.injEq] at he
  obtain ⟨_,rfl⟩:=he
  simp [Op.eqFields]
 | f::fs,a,b,xs,ys,p,r,hok,hx,hy,cx,cy,he,hp=>by
  simp only [List.all_cons,Bool.and_eq_true,bne_iff_ne] at hok
  simp only [List.map_cons,eqSs] at he
  split at he
  ·rename_i e hT
   split at he
   ·rename_i p1 x1 p2 y1 hs1 hs2
    split at he
    ·rename_i q1 r1 q2 r2 hr1 hr2
     simp only [Option.some.injEq,Prod.mk.injEq] at he
     obtain ⟨rfl,rfl⟩:=he
     obtain ⟨h1,h2,h3,h4⟩:=hp
     obtain ⟨vx,e1,e2⟩:=ki2 hw hT hs1 h1 hx cx
     obtain ⟨vy,e3,e4⟩:=ki2 hw hT hs2 h2 hy cy
     have k1:=hrec _ _ _ _ _ _ _ hok.1.2 hr1 h3 e2 e4
     have k2:=ql8 hw hrec fs a b xs ys _ _ hok.2 hx hy cx cy hr2 h4
     simp only [Op.eqFields,if_pos hok.1.1,Sem.run_bind,e1,e3,k1,Result.andThen_ok]
     cases r1
     ·simp
     ·simpa using k2
    ·cases he
   ·cases he
  ·cases he
theorem qu1 (hw:WR C h bs w) (d:Nat):∀(m t:Nat) (a b:D) (p:Prop) (r:Bool) (x y:Value),okEq C.P m t=true→eqS C.T m t a b=some (p,r)→p→RV C w bs x a→RV C w bs y b→(Op.equalIn (d+m+1) t x y).run C.P w = .ok r w
 | 0,_,_,_,_,_,_,_,_,he,_,_,_=>by cases he
 | m+1,t,a,b,p,r,x,y,hok,he,hp,hx,hy=>by
  unfold eqS at he
  split at he
  ·rename_i hT
   obtain ⟨ti,dt,_,hF,_⟩:=jd0 hw.tok hT
   have hd:=hF.desc
   cases dt<;>simp only [je3] at hd<;>try cases hd
   split at he<;>try (cases he;done)
   split at he<;>try (cases he;done)
   rename_i hk
   subst hk
   simp only [Option.some.injEq,Prod.mk.injEq] at he
   obtain ⟨_,rfl⟩:=he
   rw [(RV_v hx).1,(RV_v hy).1,run_equalIn_int w _ t _ _ _ _ hF.und]
   congr 1
  ·rename_i hT
   obtain ⟨ti,dt,_,hF,_⟩:=jd0 hw.tok hT
   have hd:=hF.desc
   cases dt<;>simp only [je3] at hd<;>try cases hd
   split at he<;>try (cases he;done)
   simp only [Option.some.injEq,Prod.mk.injEq] at he
   obtain ⟨_,rfl⟩:=he
   rw [(RV_v hx).1,(RV_v hy).1,run_equalIn_bool' w _ t _ _ hF.und]
  ·rename_i hT
   obtain ⟨ti,dt,_,hF,_⟩:=jd0 hw.tok hT
   have hd:=hF.desc
   cases dt<;>simp only [je3] at hd<;>try cases hd
   split at he<;>try (cases he;done)
   simp only [Option.some.injEq,Prod.mk.injEq] at he
   obtain ⟨_,rfl⟩:=he
   rw [(RV_v hx).1,(RV_v hy).1,run_equalIn_string w _ t _ _ hF.und]
   congr 1
   rw [kr8,kr8,Bool.eq_iff_iff]
   simp
  ·rename_i n el b1 b2 z1 hT
   split at he<;>try (cases he;done)
   rename_i kk b3 z3 k m1 f k' m2 g hE
   split at he<;>try (cases he;done)
   rename_i hc
   obtain ⟨rfl,rfl,rfl⟩:=hc
   simp only [Option.some.injEq,Prod.mk.injEq] at he
   obtain ⟨_,rfl⟩:=he
   obtain ⟨ti,dt,_,hF,_⟩:=jd0 hw.tok hT
   obtain ⟨ti2,de,_,hF2,_⟩:=jd0 hw.tok hE
   have hd:=hF.desc
   have hd2:=hF2.desc
   cases dt<;>simp only [je3] at hd<;>try cases hd
   simp only [Bool.and_eq_true,beq_iff_eq] at hd
   obtain ⟨rfl,rfl⟩:=hd
   cases de<;>simp only [je3] at hd2<;>try cases hd2
   obtain ⟨cs,e1,e2,e3⟩:=hx
   obtain ⟨cs',f1,f2,f3⟩:=hy
   have hcell:∀(zs:Array Value) (φ:Nat→Int),(∀i (hi:i<zs.size),R1 C w bs zs[i] (cell (.arr k zs.size φ) i))→∀i,i<zs.size→zs[i]?=some (.int k (φ i)):=fun zs φ hz i hi=>by
    have:=hz i hi
    rw [Array.getElem?_eq_getElem hi]
    have h5:RV C w bs zs[i] (.v (.int k (φ i))):=this
    rw [(RV_v h5).1]
   subst e2
   have hsz:C.P.cellsOf el=1:=by
    have:=hF2.size
    have hi:=hF2.info
    simp only [Program.cellsOf,hi]
    simpa using this
   rw [e1,f1,run_equalIn_array w (d+(m+1)) cs cs' hF.und hF2.info,hsz]
   exact jv7 (k1:=k) (k2:=k) w (d+m) hF2.und cs cs' f g rfl _ fun i hi=>by
    have hi':i<cs.size:=by simpa using hi
    exact ⟨hcell cs f e3 i hi',hcell cs' g (fun i hi=>f3 i hi) i (by omega)⟩
  ·rename_i fs b1 b2 z1 hT
   split at he<;>try (cases he;done)
   rename_i hc
   simp only [Bool.and_eq_true] at hc
   obtain ⟨ti,dt,_,hF,_⟩:=jd0 hw.tok hT
   have hd:=hF.desc
   cases dt<;>simp only [je3] at hd<;>try cases hd
   rename_i gs
   simp only [beq_iff_eq] at hd
   obtain ⟨cs,e1,e2,e3⟩:=(jq6 hc.1).1 hx
   obtain ⟨cs',f1,f2,f3⟩:=(jq6 hc.2).1 hy
   have hu:=hF.und
   have hfo:C.P.fieldsOf t=gs:=by unfold Program.fieldsOf;rw [hu]
   unfold okEq at hok
   rw [hu] at hok
   simp only [Bool.and_eq_true,Bool.not_eq_true'] at hok
   rw [e1,f1,run_equalIn_struct w (d+(m+1)) t cs cs' (by rw [hfo];exact hu) hok.1,hfo]
   rw [← hd] at he
   exact ql8 hw (m:=m) (dd:=d+(m+1)) (fun t a b p r x y k1 k2 k3 k4 k5=>qu1 hw d m t a b p r x y k1 k2 k3 k4 k5) gs.toList a b cs cs' p r hok.2 e2 f2 e3 f3 he hp
  ·cases he
end
theorem qz1 {C:Cx}{o:Oper}{h:List (Option Bk)}{op:BinOp}{t u:Nat}{x y:Operand}{a b:D}{p:Prop}{r:Bool} (m:Nat) (ho:o.op = .binOp op t x y u) (hop:op = .eql∨op = .neq) (hm:C.P.eqGuardType C.P.depth t=false) (hk:okEq C.P m t=true) (ha:aggB a=true) (hb:aggB b=true) (hm':m≤9000) (hf:eqS C.T m t a b=some (p,r)) (hp:p):DQ C o [a,b] h (.v (.bool (if op = .eql then r else !r))):=ji8 fun bs w ρ hw hargs=>by
 rw [ho] at hargs
 obtain ⟨a',b',h1,h2,h3⟩:=All2.two (a:=x) (b:=y) hargs
 cases h1
 obtain ⟨cs,e1,e2,e3⟩:=(jq6 ha).1 h2
 obtain ⟨cs',f1,f2,f3⟩:=(jq6 hb).1 h3
 have hq:=qu1 hw (9999-m) m t a b p r _ _ hk hf hp h2 h3
 rw [show 9999-m+m+1=10000 by omega,e1,f1] at hq
 have he:=run_eqGuard_agg w op t x y cs cs' hm
 refine ⟨_,?_,R1.im (.v rfl)⟩
 rcases hop with rfl|rfl
 ·simp [execOp,ho,e1,f1,Sem.run_bind,he,run_eql_struct,hq]
 ·simp [execOp,ho,e1,f1,Sem.run_bind,he,run_neq_struct,hq]
section
variable {md:Region.Mode}{ops:Array Oper}
variable {C:Cx}
end
theorem qm3 {C:Cx}{st:St}{bs:List (Option Nat)}{a:Act}{w:World}{s i:Nat}{ps d:D} (hr:Rel C st bs a w) (hs:st.s s = .tup ps) (hn:tnth ps i=some d) :
  ∃v:Value,(∀(o:Oper) (P:Program) (w:World) (df:List Deferred),o.op = .extract (.tmp s) i→(execOp (dfs a df).eval o).run P w = .ok (.value v) w)∧RV C w bs v d:=by
 have h:=jg5 hr (.tmp s)
 simp only [evD] at h
 rw [hs] at h
 obtain ⟨vs,hx,ht⟩:=h
 obtain ⟨y,hy,hv⟩:=qg1 ht hn
 refine ⟨y,fun o P w df ho=>?_,kz4 hv⟩
 have:vs[i]?=some y:=by simpa using hy
 have hx':(dfs a df).eval (.tmp s)=a.eval (.tmp s):=rfl
 simp [execOp,ho,Instr.extract,hx',hx,this]
def qe9 (md:Region.Mode) (ops:Array Oper) (n:Nat):Bool :=
 (List.range n).all fun i=>(List.range n).any (fun j=>decide (i<j)&&Region.waitsFor md ops j i)||(Region.waitsFor md ops n i&&Region.waitsFor md ops (n+1) i)
def ks7 (md:Region.Mode) (ops:Array Oper) (n:Nat):Bool :=
 (List.range ops.size).all fun t=>decide (t<n+3)||(List.range t).any fun u=>decide (n≤u)&&u != n+2&&Region.waitsFor md ops t u
def finA (md:Region.Mode) (ops:Array Oper) (n:Nat) (u:Array Bool):Bool :=
 (Region.ready md ops u).contains (n+1)&&Region.free md ops u (n+1)&&(Region.ready md ops (u.setIfInBounds (n+1) true)).contains n&&Region.free md ops (u.setIfInBounds (n+1) true) n
def endA (md:Region.Mode) (ops:Array Oper) (n:Nat) (lp:Array Bool):Bool :=
 (Region.ready md ops lp).all (fun j=>decide (n≤j))&&finA md ops n lp&&finA md ops n (lp.setIfInBounds (n+2) false) &&
  Region.seqB md ops (ops.size-(n+3)) (n+3) ((lp.setIfInBounds (n+1) true).setIfInBounds n true) &&
  decide (Region.ready md ops (((lp.setIfInBounds (n+2) false).setIfInBounds (n+1) true).setIfInBounds n true)=[n+2]) &&
  Region.seqB md ops (ops.size-(n+3)) (n+3) ((((lp.setIfInBounds (n+2) false).setIfInBounds (n+1) true).setIfInBounds n true).setIfInBounds (n+2) true)
def kt8 (md:Region.Mode) (ops:Array Oper) (n:Nat):Nat→Nat→Array Bool→Bool
 | 0,_,lp=>endA md ops n lp
 | f+1,k,lp=>(Region.ready md ops lp).contains k&&Region.free md ops lp k&&kt8 md ops n f (k+1) (lp.setIfInBounds k true)
def outA (ops:Array Oper) (n ta:Nat):Bool:=(List.range n).all fun i=>match ops[i]? with|some o=>!(o.looksAt ops).contains ta&&o.dst != some ta|none=>true
def kq7 (md:Region.Mode) (ops:Array Oper) (n ta:Nat):Bool :=
 Region.noSelect ops&&decide (n+2<ops.size)&&qe9 md ops n&&ks7 md ops n&&outA ops n ta&&(Region.ready md ops (Array.replicate ops.size false)).contains (n+2) &&
  (List.range n).all (fun i=>!Region.waitsFor md ops i (n+2))&&kt8 md ops n n 0 ((Array.replicate ops.size false).setIfInBounds (n+2) true)
structure InvA (md:Region.Mode) (ops:Array Oper) (n:Nat) (lp:Array Bool):Prop where
 size:lp.size=ops.size
 closed:∀j oj,j≠n+2→ops[j]?=some oj→lp.getD j false=true→∀e ∈ oj.after,Region.binds md e=true→lp.getD e.on false=true
 tail:∀t,n≤t→t≠n+2→t<ops.size→lp.getD t true=false
 made:lp.getD (n+2) false=true
section
variable {md:Region.Mode}{ops:Array Oper}
theorem InvA.set {n i:Nat}{lp:Array Bool} (inv:InvA md ops n lp) (hi:i ∈ Region.ready md ops lp) (hin:i<n):InvA md ops n (lp.setIfInBounds i true):=by
 obtain ⟨_,oi,hoi,hall⟩:=mem_ready.1 hi
 refine ⟨by simp [inv.size],fun j oj hjp hj hl e he hb=>?_,fun t ht hp ht'=>by rw [getD_set_ne true (by omega)];exact inv.tail t ht hp ht',getD_set_true inv.made⟩
 by_cases hij:i=j
 ·subst hij
  have:oj=oi:=Option.some.inj (hj.symm.trans hoi)
  subst this
  exact getD_set_true (hall e he hb)
 ·rw [getD_set_ne false hij] at hl
  exact getD_set_true (inv.closed j oj hjp hj hl e he hb)
theorem kp4 {n:Nat}{lp:Array Bool} (hs:qe9 md ops n=true) (hc:ks7 md ops n=true) (inv:InvA md ops n lp) :
  ∀(d i:Nat),n-i=d→i<n→lp.getD i true=false→∀t,n≤t→t ∉ Region.ready md ops lp:=by
 intro d
 induction d using Nat.strongRecOn with
 | _ d ih =>
  intro i hd hi hun t ht hr
  obtain ⟨hunt,ot,hot,hall⟩:=mem_ready.1 hr
  have htlt:t<ops.size:=(Array.getElem?_eq_some_iff.1 hot).1
  by_cases htp:t=n+2
  ·subst htp
   have:=inv.made
   rw [getD_both hunt] at this
   cases this
  by_cases htn:t<n+2
  ·have h1:=List.all_eq_true.1 hs i (List.mem_range.2 hi)
   simp only [Bool.or_eq_true,Bool.and_eq_true] at h1
   rcases h1 with h1|h1
   ·obtain ⟨j,hj,hj2⟩:=List.any_eq_true.1 h1
    simp only [Bool.and_eq_true,decide_eq_true_eq] at hj2
    obtain ⟨oj,hoj,e,he,hb,hon⟩:=Region.waitsFor_spec hj2.2
    have hjn:j<n:=List.mem_range.1 hj
    cases hl:lp.getD j false with
    | true =>
     have h2:=inv.closed j oj (by omega) hoj hl e he hb
     rw [hon,getD_both hun] at h2
     cases h2
    | false =>
     have hjs:j<lp.size:=by rw [inv.size];omega
     exact ih (n-j) (by omega) j rfl hjn (getD_in hjs hl) t ht hr
   ·have hw:Region.waitsFor md ops t i=true:=by
     rcases (show t=n∨t=n+1 by omega) with rfl|rfl
     ·exact h1.1
     ·exact h1.2
    obtain ⟨o',ho',e,he,hb,hon⟩:=Region.waitsFor_spec hw
    have:o'=ot:=Option.some.inj (ho'.symm.trans hot)
    subst this
    have h2:=hall e he hb
    rw [hon,getD_both hun] at h2
    cases h2
  ·have h1:=List.all_eq_true.1 hc t (List.mem_range.2 htlt)
   simp only [Bool.or_eq_true,decide_eq_true_eq] at h1
   rcases h1 with h1|h1
   ·omega
   ·obtain ⟨u,hu,hu2⟩:=List.any_eq_true.1 h1
    simp only [Bool.and_eq_true,decide_eq_true_eq,bne_iff_ne] at hu2
    have hut:u<t:=List.mem_range.1 hu
    obtain ⟨o',ho',e,he,hb,hon⟩:=Region.waitsFor_spec hu2.2
    have:o'=ot:=Option.some.inj (ho'.symm.trans hot)
    subst this
    have h2:=hall e he hb
    rw [hon,getD_both (inv.tail u hu2.1.1 hu2.1.2 (by omega))] at h2
    cases h2
variable {C:Cx}
def YD2 (C:Cx) (o:Oper) (z:Bk) (d:D) (st:St):Prop:=dstB C o=true∧o.guard=none∧DQ C o (jc7 C st o) st.h d∧DQ C o (jc7 C st o) (st.h++[some z]) d
def dOp2 (C:Cx) (ops:Array Oper) (z:Bk) (i:Nat) (K:St→Prop) (st:St):Prop:=match ops[i]? with
 | none=>False
 | some o=>∃d,YD2 C o z d st∧K (st.put o.dst d)
theorem vb1 {z:Bk}{i:Nat}{K K':St→Prop}{st:St} (hK:∀st,K st→K' st) (h:dOp2 C ops z i K st):dOp2 C ops z i K' st:=by
 unfold dOp2 at *
 split
 ·rename_i h0;rw [h0] at h;exact h
 ·rename_i o ho;rw [ho] at h;obtain ⟨d,a,c⟩:=h;exact ⟨d,a,hK _ c⟩
theorem YD2.put {o:Oper}{z:Bk}{d:D}{st:St} (hy:YD2 C o z d st) {dst:Option Tmp}{e:D} (h:∀t,dst=some t→t ∉ o.looksAt ops):YD2 C o z d (st.put dst e):=by
 refine ⟨hy.1,hy.2.1,?_⟩
 rw [jz1 h,jv3]
 exact hy.2.2
theorem YD2.unput {o:Oper}{z:Bk}{d:D}{st:St}{dst:Option Tmp}{e:D} (h:∀t,dst=some t→t ∉ o.looksAt ops) (hy:YD2 C o z d (st.put dst e)):YD2 C o z d st:=by
 refine ⟨hy.1,hy.2.1,?_⟩
 have h2:=hy.2.2
 rw [jz1 h,jv3] at h2
 exact h2
theorem vj6 {z:Bk}{j:Nat}{oi oj:Oper}{d:D} (hj:ops[j]?=some oj) (hap:oi.apart ops oj=true) {K:St→Prop}{st:St} (hy:YD2 C oi z d st)
  (h:dOp2 C ops z j K (st.put oi.dst d)):dOp2 C ops z j (fun st'=>YD2 C oi z d st'∧K (st'.put oi.dst d)) st:=by
 obtain ⟨h1,h2,h3⟩:=Oper.apart_spec hap
 unfold dOp2 at *
 rw [hj] at *
 obtain ⟨e,a,c⟩:=h
 refine ⟨e,a.unput h1,hy.put h3,?_⟩
 rw [← St.put_comm st d e h2]
 exact c
def kf6 (C:Cx) (md:Region.Mode) (ops:Array Oper) (z:Bk) (n:Nat) (L:Array Bool→St→Prop):Nat→Array Bool→St→Prop
 | 0,lp,st=>L lp st
 | f+1,lp,st=>Region.ready md ops lp≠[]∧∀i ∈ Region.ready md ops lp,i<n∧dOp2 C ops z i (kf6 C md ops z n L f (lp.setIfInBounds i true)) st
theorem qh7 {z:Bk}{n i:Nat}{oi:Oper}{d:D}{L:Array Bool→St→Prop} (hi:ops[i]?=some oi)
  (hs:qe9 md ops n=true) (hc:ks7 md ops n=true) (hin:i<n)
  (hdone:∀lp st,L lp st→∀j ∈ Region.ready md ops lp,n≤j) :
  ∀(f:Nat) (lp:Array Bool) (st:St),InvA md ops n lp →
   (∀j oj,ops[j]?=some oj→j≠i→lp.getD j true=false→(∀e ∈ oj.after,Region.binds md e=true→e.on≠i)→oi.apart ops oj=true) →
   i ∈ Region.ready md ops lp→YD2 C oi z d st →
   kf6 C md ops z n L f (lp.setIfInBounds i true) (st.put oi.dst d)→kf6 C md ops z n L (f+1) lp st:=by
 intro f
 induction f with
 | zero =>
  intro lp st inv _ hr hy H
  have hun:=(mem_ready.1 hr).1
  refine ⟨fun h=>(by rw [h] at hr;cases hr),fun j hj=>?_⟩
  have hjn:j<n:=(Nat.lt_or_ge j n).elim id fun h=>absurd hj (kp4 hs hc inv _ i rfl hin hun j h)
  refine ⟨hjn,?_⟩
  by_cases hji:j=i
  ·subst hji;unfold dOp2;rw [hi];exact ⟨d,hy,H⟩
  ·have:=hdone _ _ H j (ready_mono hj hji)
   omega
 | succ f ih =>
  intro lp st inv hfree hr hy H
  have hun:=(mem_ready.1 hr).1
  refine ⟨fun h=>(by rw [h] at hr;cases hr),fun j hj=>?_⟩
  have hjn:j<n:=(Nat.lt_or_ge j n).elim id fun h=>absurd hj (kp4 hs hc inv _ i rfl hin hun j h)
  refine ⟨hjn,?_⟩
  by_cases hji:j=i
  ·subst hji;unfold dOp2;rw [hi];exact ⟨d,hy,H⟩
  ·have h1:=(H.2 j (ready_mono hj hji)).2
   obtain ⟨hjun,oj,hoj,hall⟩:=mem_ready.1 hj
   have hnot:∀e ∈ oj.after,Region.binds md e=true→e.on≠i:=fun e he hb heq=>by
    have h2:=hall e he hb
    rw [heq,getD_both hun] at h2
    cases h2
   have h2:=vj6 hoj (hfree j oj hoj hji hjun hnot) hy h1
   have hfree':∀k ok,ops[k]?=some ok→k≠i→(lp.setIfInBounds j true).getD k true=false →
     (∀e ∈ ok.after,Region.binds md e=true→e.on≠i)→oi.apart ops ok=true:=fun k ok hk hki hunk hno=>by
    refine hfree k ok hk hki ?_ hno
    by_cases hjk:j=k
    ·subst hjk;exact hjun
    ·rw [getD_set_ne true hjk] at hunk;exact hunk
   refine vb1 (fun st' h3=>ih (lp.setIfInBounds j true) st' (inv.set hj hjn) hfree' (ready_mono hr (Ne.symm hji)) h3.1 ?_) h2
   rw [Array.setIfInBounds_comm _ _ hji]
   exact h3.2
def DRq2 (C:Cx) (z:Bk) (K:St→Prop):List Oper→St→Prop
 | [],st=>K st
 | o::rest,st=>∃d,YD2 C o z d st∧DRq2 C z K rest (st.put o.dst d)
theorem kt2 {z:Bk}{n:Nat}{Lq:St→Prop} (hs:qe9 md ops n=true) (hc:ks7 md ops n=true) :
  ∀(l:List Oper) (k:Nat) (lp:Array Bool) (st:St),(∀j,j<l.length→l[j]?=ops[k+j]?)→k+l.length=n→InvA md ops n lp →
  kt8 md ops n l.length k lp=true→DRq2 C z Lq l st →
  kf6 C md ops z n (fun lp' st'=>endA md ops n lp'=true∧InvA md ops n lp'∧Lq st') l.length lp st
 | [],k,lp,st,_,hk,inv,hB,h=>⟨by simpa [kt8] using hB,inv,h⟩
 | o::l,k,lp,st,hl,hk,inv,hB,h=>by
  have h0:ops[k]?=some o:=by simpa using (hl 0 (by simp)).symm
  simp only [List.length_cons,kt8,Bool.and_eq_true] at hB
  obtain ⟨⟨hr,hf⟩,hB'⟩:=hB
  have hkn:k<n:=by simp only [List.length_cons] at hk;omega
  have hr':k ∈ Region.ready md ops lp:=by simpa using hr
  obtain ⟨d,h1,hK⟩:=h
  refine qh7 h0 hs hc hkn (fun lp' a' hL=>?_) l.length lp st inv (Region.free_spec h0 hf) hr' h1
   (kt2 hs hc l (k+1) _ _ (fun j hj=>by have:=hl (j+1) (by simp;omega);simpa [Nat.add_assoc,Nat.add_comm 1 j] using this) (by simp only [List.length_cons] at hk;omega) (inv.set hr' hkn) hB' hK)
  have hE:=hL.1
  simp only [endA,Bool.and_eq_true] at hE
  intro j hj
  simpa using List.all_eq_true.1 hE.1.1.1.1.1 j hj
def aSt (ta:Nat) (z:Bk) (st:St):St:=⟨upd st.s ta (.ptr st.h.length 0),st.h++[some z]⟩
theorem kw8 {ta:Nat}{z:Bk}{st:St}{dst:Option Tmp}{d:D} (h:dst≠some ta):aSt ta z (st.put dst d)=(aSt ta z st).put dst d:=by
 cases dst with
 | none=>rfl
 | some t =>
  have hne:t≠ta:=fun e=>h (by rw [e])
  simp only [aSt,St.put,St.mk.injEq,and_true]
  funext i
  simp only [upd]
  by_cases h1:i=ta<;>by_cases h2:i=t<;>simp_all
theorem va2 (ta:Nat) (z:Bk) (st:St):aSt ta z st=St.put ⟨st.s,st.h++[some z]⟩ (some ta) (.ptr st.h.length 0):=rfl
section
variable {df:List Deferred}{Q:Exit→Act→World→Prop}{z:Bk}
theorem km5 {i:Nat}{o:Oper}{K':Act→World→Prop}{st:St}{bs:List (Option Nat)}{a:Act}{w:World}{d:D} (hi:ops[i]?=some o) (hg:o.guard=none) (hd:dstB C o=true) (hr:Rel C st bs a w)
  (hq:DQ C o (jc7 C st o) st.h d) (hK:∀a w,Rel C (st.put o.dst d) bs a w→K' (dfs a df) w):wpOpIn (FF none) 3 C.P ops Q i K' (dfs a df) w:=by
 unfold wpOpIn
 rw [hi]
 have hw':Region.wanted o (yielded ops (dfs a df).tmps)=true:=by simp [Region.wanted,hg]
 dsimp only
 rw [if_pos hw']
 refine Up.wpIn (a:=dfs a df) (hq bs w a.eval hr.wr (All2.map _ fun x _=>jg5 hr x)) fun x w' ⟨e1,e2,e3⟩=>?_
 rw [jn6]
 exact hK _ _ ((hr.ext e1 e2).put (jf1 hd) e3)
theorem kw0 {i:Nat}{o:Oper}{K':Act→World→Prop}{st st':St}{bs:List (Option Nat)}{a:Act}{w:World} (hi:ops[i]?=some o) (hg:o.guard=none) (hr:Rel C st bs a w)
  (hq:DO C o st st') (hK:∀bs' a w,Rel C st' bs' a w→K' (dfs a df) w):wpOpIn (FF none) 3 C.P ops Q i K' (dfs a df) w:=by
 unfold wpOpIn
 rw [hi]
 have hw':Region.wanted o (yielded ops (dfs a df).tmps)=true:=by simp [Region.wanted,hg]
 dsimp only
 rw [if_pos hw']
 refine Up.wpIn (a:=dfs a df) (hq bs a w hr) fun x w' ⟨bs',hr'⟩=>?_
 rw [jn6]
 exact hK _ _ _ hr'
theorem qc2 {n ta g:Nat}{L:Array Bool→St→Prop} (ho:outA ops n ta=true)
  (hL:∀lp st bs a w,Rel C (aSt ta z st) bs a w→L lp st→wpAnyIn (FF none) 3 C.P md ops Q g lp (dfs a df) w) :
  ∀(f:Nat) (lp:Array Bool) (st:St) (bs:List (Option Nat)) (a:Act) (w:World),InvA md ops n lp→Rel C (aSt ta z st) bs a w→kf6 C md ops z n L f lp st→wpAnyIn (FF none) 3 C.P md ops Q (f+g) lp (dfs a df) w
 | 0,lp,st,bs,a,w,_,hr,h=>by rw [Nat.zero_add];exact hL _ _ _ _ _ hr h
 | f+1,lp,st,bs,a,w,inv,hr,h=>by
  rw [show f+1+g=(f+g)+1 by omega]
  refine ⟨fun h0=>absurd h0 h.1,fun i hi=>?_⟩
  obtain ⟨hin,h1⟩:=h.2 i hi
  unfold dOp2 at h1
  split at h1
  ·exact h1.elim
  ·rename_i o hio
   obtain ⟨d,⟨hd,hg,_,hq⟩,hK⟩:=h1
   have hout:=List.all_eq_true.1 ho i (List.mem_range.2 hin)
   rw [hio] at hout
   simp only [Bool.and_eq_true,Bool.not_eq_true',bne_iff_ne,List.contains_eq_mem,decide_eq_false_iff_not] at hout
   have hargs:jc7 C (aSt ta z st) o=jc7 C st o:=by
    rw [va2,jz1 (ops:=ops) (fun t ht=>by cases ht;exact hout.1)]
    unfold jc7
    exact List.map_congr_left fun x _=>by cases x<;>rfl
   refine km5 hio hg hd hr (d:=d) (by rw [hargs];exact hq) fun a w hr'=>?_
   rw [← kw8 hout.2] at hr'
   exact qc2 ho hL f _ _ _ _ _ (inv.set hi hin) hr' hK
theorem ku1 {n ta g:Nat}{oa:Oper}{e:TE}{T:Nat}{L:Array Bool→St→Prop} (hz:z = .one e.z) (hoa:ops[n+2]?=some oa) (hga:oa.guard=none) (hta:oa.dst=some ta) (htn:ta<C.n) (hop:oa.op = .alloc T) (hT:C.T T=some e) (hpr:n+2 ∈ Region.ready md ops (Array.replicate ops.size false))
  (hnw:∀i,i<n→Region.waitsFor md ops i (n+2)=false) (ho:outA ops n ta=true)
  (hL:∀lp st bs a w,Rel C (aSt ta z st) bs a w→L lp st→wpAnyIn (FF none) 3 C.P md ops Q g lp (dfs a df) w)
  (hL0:∀lp st bs a w,Rel C st bs a w→L lp st→wpAnyIn (FF none) 3 C.P md ops Q (g+1) (lp.setIfInBounds (n+2) false) (dfs a df) w) :
  ∀(f:Nat) (lp:Array Bool) (st:St) (bs:List (Option Nat)) (a:Act) (w:World),InvA md ops n lp→Rel C st bs a w→kf6 C md ops z n L f lp st→wpAnyIn (FF none) 3 C.P md ops Q (f+(g+1)) (lp.setIfInBounds (n+2) false) (dfs a df) w
 | 0,lp,st,bs,a,w,_,hr,h=>by rw [Nat.zero_add];exact hL0 _ _ _ _ _ hr h
 | f+1,lp,st,bs,a,w,inv,hr,h=>by
  have hps:n+2<lp.size:=by rw [inv.size];exact (Array.getElem?_eq_some_iff.1 hoa).1
  have hpu:(lp.setIfInBounds (n+2) false).getD (n+2) true=false:=by simp [hps]
  have hna:∀e ∈ oa.after,Region.binds md e=false:=fun e he=>by
   obtain ⟨_,o',ho',hall⟩:=mem_ready.1 hpr
   have:o'=oa:=Option.some.inj (ho'.symm.trans hoa)
   subst this
   cases hb:Region.binds md e with
   | false=>rfl
   | true =>
    have:=hall e he hb
    rw [getD_replicate_false] at this
    cases this
  have hpready:n+2 ∈ Region.ready md ops (lp.setIfInBounds (n+2) false):=mem_ready.2 ⟨hpu,oa,hoa,fun e he hb=>by rw [hna e he] at hb;cases hb⟩
  have hback:(lp.setIfInBounds (n+2) false).setIfInBounds (n+2) true=lp:=by
   have h1:lp[n+2]?=some true:=by
    have:=inv.made
    simp only [Array.getD_eq_getD_getElem?] at this
    cases hl:lp[n+2]? with
    | none=>rw [hl] at this;cases this
    | some b=>rw [hl] at this;simpa using this
   apply Array.ext_getElem?
   intro i
   simp only [Array.getElem?_setIfInBounds,Array.size_setIfInBounds]
   by_cases h2:n+2=i
   ·subst h2
    simp only [hps,if_true,h1]
   ·simp [h2]
  rw [show f+1+(g+1)=(f+(g+1))+1 by omega]
  refine ⟨fun h0=>(by rw [h0] at hpready;cases hpready),fun i hi=>?_⟩
  by_cases hip:i=n+2
  ·subst hip
   rw [hback]
   refine kw0 hoa hga hr (jb5 hop (by simp [dstB,hta,htn]) hT) fun bs' a w hr'=>?_
   rw [hta] at hr'
   rw [show f+(g+1)=(f+1)+g by omega]
   exact qc2 ho hL (f+1) lp st bs' a w inv (by rw [va2,hz];exact hr') h
  ·have hi':i ∈ Region.ready md ops lp:=by
    have:=ready_mono hi hip
    rwa [hback] at this
   obtain ⟨hin,h1⟩:=h.2 i hi'
   unfold dOp2 at h1
   split at h1
   ·exact h1.elim
   ·rename_i o hio
    obtain ⟨d,⟨hd,hg,hq,_⟩,hK⟩:=h1
    refine km5 hio hg hd hr hq fun a w hr'=>?_
    rw [Array.setIfInBounds_comm _ _ (by omega)]
    exact ku1 hz hoa hga hta htn hop hT hpr hnw ho hL hL0 f _ _ _ _ _ (inv.set hi' hin) hr' hK
theorem qd3 {n g s t0 t1 i0 i1:Nat}{o0 o1:Oper}{u:Array Bool}{st:St}{bs:List (Option Nat)}{a:Act}{w:World}{ps d0 d1:D} (hsel:Region.noSelect ops=true) (hq:∀c a w,¬Q (.panic c) a w)
  (h0:ops[n]?=some o0) (h1:ops[n+1]?=some o1) (e0:o0.op = .extract (.tmp s) i0) (e1:o1.op = .extract (.tmp s) i1) (g0:o0.guard=none) (g1:o1.guard=none) (dd0:o0.dst=some t0) (dd1:o1.dst=some t1) (ht0:t0<C.n) (ht1:t1<C.n) (hst:t1≠s)
  (hr:Rel C st bs a w) (hs:st.s s = .tup ps) (hn0:tnth ps i0=some d0) (hn1:tnth ps i1=some d1) (hf:finA md ops n u=true)
  (hK:∀a',Rel C ((st.put (some t1) d1).put (some t0) d0) bs a' w→wpAnyIn (FF none) 3 C.P md ops Q g ((u.setIfInBounds (n+1) true).setIfInBounds n true) (dfs a' df) w):wpAnyIn (FF none) 3 C.P md ops Q (g+2) u (dfs a df) w:=by
 simp only [finA,Bool.and_eq_true] at hf
 obtain ⟨⟨⟨r1,f1⟩,r0⟩,f0⟩:=hf
 obtain ⟨v1,hv1,hR1⟩:=qm3 hr hs hn1
 have hr1:Rel C (st.put (some t1) d1) bs (a.put (some t1) v1) w:=hr.put (fun u hu=>by cases hu;exact ht1) hR1
 have hs':(st.put (some t1) d1).s s = .tup ps:=by
  simp only [St.put,upd]
  rw [if_neg (Ne.symm hst)]
  exact hs
 obtain ⟨v0,hv0,hR0⟩:=qm3 hr1 hs' hn0
 have hr0:=hr1.put (dst:=some t0) (fun u hu=>by cases hu;exact ht0) hR0
 have k0:=wpAnyIn_first (F:=FF none) (n:=3) (P:=C.P) (md:=md) (Q:=Q) (oi:=o0) (v:=v0) rfl h0 (Region.noSelect_spec hsel) (fun c a w h=>absurd h (hq c _ w)) g (u.setIfInBounds (n+1) true) (dfs (a.put (some t1) v1) df) w (Region.free_spec h0 f0) (by simpa using r0)
  ⟨.inl ⟨by simp [Region.wanted,g0],fun w=>hv0 o0 C.P w df e0⟩,fun w=>by simp [Oper.about,e0]⟩ (by rw [dd0,jn6];exact hK _ hr0)
 exact wpAnyIn_first (F:=FF none) (n:=3) (P:=C.P) (md:=md) (Q:=Q) (oi:=o1) (v:=v1) rfl h1 (Region.noSelect_spec hsel) (fun c a w h=>absurd h (hq c _ w)) (g+1) u (dfs a df) w (Region.free_spec h1 f1) (by simpa using r1)
  ⟨.inl ⟨by simp [Region.wanted,g1],fun w=>hv1 o1 C.P w df e1⟩,fun w=>by simp [Oper.about,e1]⟩ (by rw [dd1,jn6];exact k0)
end
end
def AftA (C:Cx) (ops:Array Oper) (Q:St→Prop) (s i0 i1 t0 t1 ta:Nat) (z:Bk) (rest:List Oper) (st:St):Prop :=
 ∃ps d0 d1,st.s s = .tup ps∧tnth ps i0=some d0∧tnth ps i1=some d1∧DR C ops Q rest (aSt ta z ((st.put (some t1) d1).put (some t0) d0))
theorem vi1 {df:List Deferred}{C:Cx}{Q:St→Prop}{st:St}{id:Nat}{l:List Oper}{o0 o1 oa:Oper}{s i0 i1 t0 t1 ta T:Nat}{e:TE} (n:Nat) (h0:l[n]?=some o0) (h1:l[n+1]?=some o1) (h2:l[n+2]?=some oa)
  (e0:o0.op = .extract (.tmp s) i0) (e1:o1.op = .extract (.tmp s) i1) (ea:oa.op = .alloc T) (g0:o0.guard=none) (g1:o1.guard=none) (ga:oa.guard=none) (dd0:o0.dst=some t0) (dd1:o1.dst=some t1) (da:oa.dst=some ta)
  (ht:(Nat.blt t0 C.n&&Nat.blt t1 C.n&&Nat.blt ta C.n&&!Nat.beq t1 s&&!Nat.beq ta s&&!Nat.beq ta t0&&!Nat.beq ta t1)=true) (hT:C.T T=some e)
  (hB:kq7 .any l.toArray n ta=true) (h:DRq2 C (.one e.z) (AftA C l.toArray Q s i0 i1 t0 t1 ta (.one e.z) (l.drop (n+3))) (l.take n) st) :
  DV none df C (.region id l.toArray true) (fun e st=>e = .normal∧Q st) st:=fun bs a w hr=>by
 simp only [kq7,Bool.and_eq_true,decide_eq_true_eq] at hB
 obtain ⟨⟨⟨⟨⟨⟨⟨hsel,hn2⟩,hs⟩,hc⟩,ho⟩,hpr⟩,hnw⟩,hlex⟩:=hB
 simp only [Bool.and_eq_true,Bool.not_eq_true',Nat.blt_eq] at ht
 obtain ⟨⟨⟨⟨⟨⟨k0,k1⟩,ka⟩,n1⟩,n2⟩,n3⟩,n4⟩:=ht
 have hne:∀{x y:Nat},Nat.beq x y=false→x≠y:=fun h e=>by subst e;rw [Nat.beq_refl] at h;cases h
 have hn2':n+2<l.length:=by simpa using hn2
 have htl:(l.take n).length=n:=by simp;omega
 have hd3:(l.drop (n+3)).length=l.toArray.size-(n+3):=by simp
 have hoa:l.toArray[n+2]?=some oa:=by simpa using h2
 have ho0:l.toArray[n]?=some o0:=by simpa using h0
 have ho1:l.toArray[n+1]?=some o1:=by simpa using h1
 have hpr':n+2 ∈ Region.ready .any l.toArray (Array.replicate l.toArray.size false):=by simpa using hpr
 have hps:n+2<(Array.replicate l.toArray.size false).size:=by simpa using hn2
 have inv0:InvA .any l.toArray n ((Array.replicate l.toArray.size false).setIfInBounds (n+2) true):=by
  refine ⟨by simp,fun j oj hj _ hl=>?_,fun t ht hp ht'=>?_,?_⟩
  ·rw [getD_set_ne false (Ne.symm hj),getD_replicate_false] at hl;cases hl
  ·rw [getD_set_ne true (Ne.symm hp)];exact getD_in (by simpa using ht') (getD_replicate_false _ _)
  ·simp [hn2']
 have hback:((Array.replicate l.toArray.size false).setIfInBounds (n+2) true).setIfInBounds (n+2) false=Array.replicate l.toArray.size false:=by
  apply Array.ext_getElem?
  intro i
  simp only [Array.getElem?_setIfInBounds,Array.size_setIfInBounds]
  by_cases h2:n+2=i
  ·subst h2;simp [hn2']
  ·simp [h2]
 have H:=kt2 (md:=.any) (z:=.one e.z) hs hc (l.take n) 0 _ st (fun j hj=>by
  have hj':j<n:=by rw [htl] at hj;exact hj
  simp [hj']) (by simpa using htl) inv0 (by rw [htl];exact hlex) h
 refine wpIn_region_any hr.wr.mix ?_
 have tailK:∀(lst:Array Bool) (st':St) (bs':List (Option Nat)) (a':Act) (w':World),Rel C st' bs' a' w'→DR C l.toArray Q (l.drop (n+3)) st'→Region.seqB .any l.toArray (l.toArray.size-(n+3)) (n+3) lst=true →
   wpAnyIn (FF none) 3 C.P .any l.toArray (fun e a' w'=>∃st' bs' a0,a'=dfs a0 df∧Rel C st' bs' a0 w'∧e = .normal∧Q st') (l.toArray.size-(n+3)) lst (dfs a' df) w':=fun lst st' bs' a' w' hr' hD hq=>by
  have:=js4 (r:=none) (n:=3) (C:=C) (md:=.any) (Q:=fun e a' w'=>∃st' bs' a0,a'=dfs a0 df∧Rel C st' bs' a0 w'∧e = .normal∧Q st') (l.drop (n+3)) (n+3) lst (dfs a' df) w' (fun q=>by simp [List.getElem?_drop]) (by rw [hd3];exact hq)
   (jn7 (fun st bs a w h1 h2=>⟨st,bs,a,rfl,h1,rfl,h2⟩) _ st' bs' a' w' hr' hD)
  rwa [hd3] at this
 have hq:∀c (a':Act) (w':World),¬(∃st' bs' a0,a'=dfs a0 df∧Rel C st' bs' a0 w'∧Exit.panic c = .normal∧Q st'):=fun c a' w' ⟨_,_,_,_,_,h,_⟩=>by cases h
 have:=ku1 (df:=df) (md:=.any) (z:=.one e.z) (L:=fun lp' st'=>endA .any l.toArray n lp'=true∧InvA .any l.toArray n lp'∧AftA C l.toArray Q s i0 i1 t0 t1 ta (.one e.z) (l.drop (n+3)) st') (g:=l.toArray.size-(n+3)+2) (Q:=fun e a' w'=>∃st' bs' a0,a'=dfs a0 df∧Rel C st' bs' a0 w'∧e = .normal∧Q st') (ta:=ta) rfl hoa ga da ka ea hT hpr' (fun i hi=>by
   have:=List.all_eq_true.1 hnw i (List.mem_range.2 hi)
   simpa using this) ho
  (fun lp st' bs' a' w' hr' hL=>by
   obtain ⟨hE,inv,ps,d0,d1,q1,q2,q3,hD⟩:=hL
   simp only [endA,Bool.and_eq_true] at hE
   refine qd3 (st:=aSt ta (.one e.z) st') hsel hq ho0 ho1 e0 e1 g0 g1 dd0 dd1 k0 k1 (hne n1) hr' (by
    simp only [aSt,upd]
    rw [if_neg (Ne.symm (hne n2))]
    exact q1) q2 q3 hE.1.1.1.1.2 fun a'' hr''=>?_
   rw [← kw8 (fun h=>hne n4 (Option.some.inj h).symm),← kw8 (fun h=>hne n3 (Option.some.inj h).symm)] at hr''
   exact tailK _ _ _ _ _ hr'' hD hE.1.1.2)
  (fun lp st' bs' a' w' hr' hL=>by
   obtain ⟨hE,inv,ps,d0,d1,q1,q2,q3,hD⟩:=hL
   simp only [endA,Bool.and_eq_true,decide_eq_true_eq] at hE
   rw [show l.toArray.size-(n+3)+2+1=(l.toArray.size-(n+3)+1)+2 by omega]
   refine qd3 hsel hq ho0 ho1 e0 e1 g0 g1 dd0 dd1 k0 k1 (hne n1) hr' q1 q2 q3 hE.1.1.1.2 fun a'' hr''=>?_
   refine ⟨fun h1=>(by rw [hE.1.2] at h1;cases h1),fun j hj=>?_⟩
   rw [hE.1.2] at hj
   obtain rfl:j=n+2:=by simpa using hj
   refine kw0 hoa ga hr'' (jb5 ea (by simp [dstB,da,ka]) hT) fun bs3 a3 w3 hr3=>?_
   rw [da] at hr3
   exact tailK _ _ _ _ _ hr3 hD hE.2) n _ st bs a _ inv0 hr.drew (by rw [htl] at H;exact H)
 rw [hback,show n+(l.toArray.size-(n+3)+2+1)=l.toArray.size by simp;omega] at this
 exact this
theorem qq2 {E:Env}{n:Nat}{pins:List Nat}{γ:Type 1}{M:Md E n pins γ}{Q:Exit→γ→St→Prop}{g:γ}{id:Nat}{ops:List Oper}{o0 o1 oa:Oper}{s i0 i1 t0 t1 ta T:Nat}{e:TE}{l:List (Nat×D)}{h:List (Option Bk)} (live:List Nat) (m:Nat) (h0:ops[m]?=some o0) (h1:ops[m+1]?=some o1) (h2:ops[m+2]?=some oa)
  (e0:o0.op = .extract (.tmp s) i0) (e1:o1.op = .extract (.tmp s) i1) (ea:oa.op = .alloc T) (g0:o0.guard=none) (g1:o1.guard=none) (ga:oa.guard=none) (dd0:o0.dst=some t0) (dd1:o1.dst=some t1) (da:oa.dst=some ta)
  (ht:(Nat.blt t0 n&&Nat.blt t1 n&&Nat.blt ta n&&!Nat.beq t1 s&&!Nat.beq ta s&&!Nat.beq ta t0&&!Nat.beq ta t1)=true) (hT:E.T T=some e)
  (hB:kq7 .any ops.toArray m ta=true) (k:∀(w0:World) (A S0:Nat→Prop) (f:Nat→Option Nat),DRq2 (mkG E n w0 A S0 (fxP pins f)) (.one e.z) (AftA (mkG E n w0 A S0 (fxP pins f)) ops.toArray (KL live (Q .normal g)) s i0 i1 t0 t1 ta (.one e.z) (ops.drop (m+3))) (ops.take m) ⟨look l,h⟩) :
  DX M none (.region id ops.toArray true) Q g (mk l h):=fun bs a W hr=>by
 obtain ⟨w0,A,S0,f,a0,df,rfl,hR,hback⟩:=M.lift hr
 refine wpIn_mono (vi1 (df:=df) (Q:=fun st'=>KL live (Q .normal g) st') m h0 h1 h2 e0 e1 ea g0 g1 ga dd0 dd1 da ht hT hB (k w0 A S0 f) bs a0 W hR) fun e a' w' ⟨st',bs',a1,e1,h1,h2,h3⟩=>?_
 subst e1;subst h2
 obtain ⟨bs2,h4⟩:=Weak.pick live bs' a1 w' h1
 exact ⟨g,_,bs2,hback _ _ _ _ h4,h3 _ rfl⟩
section
variable {C:Cx}{K:St→Prop}{o:Oper}{rest:List Oper}{σ:Nat→D}{h:List (Option Bk)}{z:Bk}
theorem qx2 {p p':Prop}{d:D} (t:Nat) (hg:o.guard=none) (hd:o.dst=some t) (ht':Nat.blt t C.n=true) (k:DRq2 C z K rest ⟨upd σ t d,h⟩) (e:dqF C.T h o.op (jc7 C ⟨σ,h⟩ o)=some (p,d):=by exact dsx) (hp:p:=by (repeat' (with_reducible apply And.intro))<;>first|(with_reducible exact True.intro)|omega|exact lnx|(intro d hd;simp only [List.mem_cons,List.not_mem_nil,or_false] at hd;(first|(subst hd;first|trivial|exact ⟨rfl,rfl⟩)|(rcases hd with rfl|rfl<;>first|trivial|exact ⟨rfl,rfl⟩)|(rcases hd with rfl|rfl|rfl<;>first|trivial|exact ⟨rfl,rfl⟩)|(rcases hd with rfl|rfl|rfl|rfl<;>first|trivial|exact ⟨rfl,rfl⟩)|(rcases hd with rfl|rfl|rfl|rfl|rfl<;>first|trivial|exact ⟨rfl,rfl⟩)|(rcases hd with rfl|rfl|rfl|rfl|rfl|rfl<;>first|trivial|exact ⟨rfl,rfl⟩)|(rcases hd with rfl|rfl|rfl|rfl|rfl|rfl|rfl<;>first|trivial|exact ⟨rfl,rfl⟩)|(rcases hd with rfl|rfl|rfl|rfl|rfl|rfl|rfl|rfl<;>first|trivial|exact ⟨rfl,rfl⟩)|(rcases hd with rfl|rfl|rfl|rfl|rfl|rfl|rfl|rfl|rfl<;>first|trivial|exact ⟨rfl,rfl⟩)))|(intro d hd;simp only [List.mem_map,List.mem_cons,List.not_mem_nil,or_false] at hd;obtain ⟨i,_,rfl⟩:=hd;first|trivial|exact ⟨rfl,rfl⟩)|(intro d hd;simp only [List.mem_append,List.mem_map,List.mem_cons,List.not_mem_nil,or_false] at hd;rcases hd with ⟨i,_,rfl⟩|rfl<;>first|trivial|exact ⟨rfl,rfl⟩)|(intro i hi;rfl)|rfl)
  (e':dqF C.T (h++[some z]) o.op (jc7 C ⟨σ,h⟩ o)=some (p',d):=by simp only [List.cons_append,List.nil_append,jc0,implies_true,setD,bslF,jf8,je6,List.zip_cons_cons,List.zip_nil_right,List.zip_nil_left,jc1,rng0,rng1,rng2,rng3,rng4,rng5,rng6,rng7,rng8,List.getD_cons_zero,List.getD_cons_succ,Nat.reduceLeDiff,decide_true,decide_false,List.all_cons,List.all_nil,dqF,nilF,jh9,jc7,Op.operands,Call.operands,evD,cD,gip,upd,look,List.map,List.map_cons,List.map_nil,binF,binI,shI,binS,unF,wD,kLo,kHi,kMod,jh8,jh1,jh2,jg0,jf9,jg2,jg1,lenF,lenD,jf2,je9,minF,je7,cutL,bndF,sub,nc,aggT,aggB,scB,tnth,elems,L_B,L_mk,List.getElem?_cons_zero,List.getElem?_cons_succ,reduceIte,reduceCtorEq,Option.isSome,List.toList_toArray,Nat.reduceAdd,Nat.reduceSub,Nat.reduceMul,Nat.reduceEqDiff,Nat.reduceLT,Nat.reduceBEq,mkF,mkG,Bool.and_true,Bool.true_and,Bool.and_false,Bool.false_and,beq_self_eq_true,mkC,Int.reduceToNat,Int.toNat_natCast,Int.reduceAdd,Int.reduceSub,Int.reduceMul,Nat.zero_add,Nat.add_zero,Nat.mul_one,and_true,true_and,Option.getD_some,Option.getD_none,ne_eq,not_true_eq_false,not_false_eq_true,decide_not,Bool.not_true,Bool.not_false,Int.reduceLT,Int.reduceLE,Int.reduceEq,Int.reduceNe,Int.reduceGT,Int.reduceGE,gt_iff_lt,ge_iff_le,Nat.reduceLT,Nat.reduceLeDiff,u32D,u8D,iD,bD,strD,jf7,jh5,jf5,jf3,jf6,je4,jf0,jh6,jg9,ja9,tyT,gtab,hX];exact rfl) (hp':p':=by (repeat' (with_reducible apply And.intro))<;>first|(with_reducible exact True.intro)|omega|exact lnx|(intro d hd;simp only [List.mem_cons,List.not_mem_nil,or_false] at hd;(first|(subst hd;first|trivial|exact ⟨rfl,rfl⟩)|(rcases hd with rfl|rfl<;>first|trivial|exact ⟨rfl,rfl⟩)|(rcases hd with rfl|rfl|rfl<;>first|trivial|exact ⟨rfl,rfl⟩)|(rcases hd with rfl|rfl|rfl|rfl<;>first|trivial|exact ⟨rfl,rfl⟩)|(rcases hd with rfl|rfl|rfl|rfl|rfl<;>first|trivial|exact ⟨rfl,rfl⟩)|(rcases hd with rfl|rfl|rfl|rfl|rfl|rfl<;>first|trivial|exact ⟨rfl,rfl⟩)|(rcases hd with rfl|rfl|rfl|rfl|rfl|rfl|rfl<;>first|trivial|exact ⟨rfl,rfl⟩)|(rcases hd with rfl|rfl|rfl|rfl|rfl|rfl|rfl|rfl<;>first|trivial|exact ⟨rfl,rfl⟩)|(rcases hd with rfl|rfl|rfl|rfl|rfl|rfl|rfl|rfl|rfl<;>first|trivial|exact ⟨rfl,rfl⟩)))|(intro d hd;simp only [List.mem_map,List.mem_cons,List.not_mem_nil,or_false] at hd;obtain ⟨i,_,rfl⟩:=hd;first|trivial|exact ⟨rfl,rfl⟩)|(intro d hd;simp only [List.mem_append,List.mem_map,List.mem_cons,List.not_mem_nil,or_false] at hd;rcases hd with ⟨i,_,rfl⟩|rfl<;>first|trivial|exact ⟨rfl,rfl⟩)|(intro i hi;rfl)|rfl):DRq2 C z K (o::rest) ⟨σ,h⟩:=by
 have ht:t<C.n:=by simpa using ht'
 refine ⟨d,⟨by simp [dstB,hd,ht],hg,DQ_F e hp,DQ_F e' hp'⟩,?_⟩
 simp only [St.put,hd]
 exact k
theorem cx2 {E:Env}{f:FuncId}{g:Operand}{args:Array Operand}{ts:Array TypeId}{xs:List D}{d:D} (t:Nat) (hE:EnvC E C) (hg:o.guard=none) (hd:o.dst=some t) (ht':Nat.blt t C.n=true)
  (ho:o.op = .call { callee:=.value g,args:=args,argTypes:=ts }) (hf:fnB C.P f=true)
  (k:DRq2 C z K rest ⟨upd σ t d,h⟩) (e:jc7 C ⟨σ,h⟩ o = .fn f .nil::xs:=by exact dsa) (hx:xs.all jc1=true:=by rfl) (hc:PC E f xs d):DRq2 C z K (o::rest) ⟨σ,h⟩:=by
 have ht:t<C.n:=by simpa using ht'
 refine ⟨d,⟨by simp [dstB,hd,ht],hg,by rw [e];exact jj0 hE ho hf hx hc,by rw [e];exact jj0 hE ho hf hx hc⟩,?_⟩
 simp only [St.put,hd]
 exact k
theorem vp1 {ops:Array Oper}{Q:St→Prop}{s i0 i1 t0 t1 ta L:Nat}{l:List Oper}{h':List (Option Bk)} (ps d0 d1:D) (k:DR C ops Q l ⟨upd (upd (upd σ t1 d1) t0 d0) ta (.ptr L 0),h'⟩)
  (hs:σ s = .tup ps:=by exact dsx) (h0:tnth ps i0=some d0:=by exact dsx) (h1:tnth ps i1=some d1:=by exact dsx)
  (eL:h.length=L:=by exact rfl) (eh:h++[some z]=h':=by simp only [List.nil_append,List.cons_append];exact rfl):DRq2 C z (AftA C ops Q s i0 i1 t0 t1 ta z l) [] ⟨σ,h⟩:=⟨ps,d0,d1,hs,h0,h1,by subst eL;subst eh;exact k⟩
end
section
variable {C:Cx}{ops:Array Oper}{K:St→Prop}{o:Oper}{rest:List Oper}{s:Nat→D}{h:List (Option Bk)}{op:BinOp}{ty u:Nat}{x y:Operand}{a b:D}{p:Prop}{r r':Bool}
theorem eqsx (m t:Nat) (hg:o.guard=none) (hd:o.dst=some t) (ht':Nat.blt t C.n=true) (ho:o.op = .binOp op ty x y u) (hop:op = .eql∨op = .neq) (hm:C.P.eqGuardType C.P.depth ty=false) (hk:okEq C.P m ty=true) (hm':Nat.ble m 9000=true) (k:DR C ops K rest ⟨upd s t (.v (.bool r')),h⟩)
  (e:jc7 C ⟨s,h⟩ o=[a,b]:=by exact dsx) (ha:aggB a=true:=by rfl) (hb:aggB b=true:=by rfl) (hf:eqS C.T m ty a b=some (p,r):=by exact dz13)
  (hp:p:=by (repeat' (with_reducible apply And.intro))<;>first|(with_reducible exact True.intro)|omega|exact lnx|(intro d hd;simp only [List.mem_cons,List.not_mem_nil,or_false] at hd;(first|(subst hd;first|trivial|exact ⟨rfl,rfl⟩)|(rcases hd with rfl|rfl<;>first|trivial|exact ⟨rfl,rfl⟩)|(rcases hd with rfl|rfl|rfl<;>first|trivial|exact ⟨rfl,rfl⟩)|(rcases hd with rfl|rfl|rfl|rfl<;>first|trivial|exact ⟨rfl,rfl⟩)|(rcases hd with rfl|rfl|rfl|rfl|rfl<;>first|trivial|exact ⟨rfl,rfl⟩)|(rcases hd with rfl|rfl|rfl|rfl|rfl|rfl<;>first|trivial|exact ⟨rfl,rfl⟩)|(rcases hd with rfl|rfl|rfl|rfl|rfl|rfl|rfl<;>first|trivial|exact ⟨rfl,rfl⟩)|(rcases hd with rfl|rfl|rfl|rfl|rfl|rfl|rfl|rfl<;>first|trivial|exact ⟨rfl,rfl⟩)|(rcases hd with rfl|rfl|rfl|rfl|rfl|rfl|rfl|rfl|rfl<;>first|trivial|exact ⟨rfl,rfl⟩)))|(intro d hd;simp only [List.mem_map,List.mem_cons,List.not_mem_nil,or_false] at hd;obtain ⟨i,_,rfl⟩:=hd;first|trivial|exact ⟨rfl,rfl⟩)|(intro d hd;simp only [List.mem_append,List.mem_map,List.mem_cons,List.not_mem_nil,or_false] at hd;rcases hd with ⟨i,_,rfl⟩|rfl<;>first|trivial|exact ⟨rfl,rfl⟩)|(intro i hi;rfl)|rfl) (er:(if op = .eql then r else !r)=r':=by exact dz14):DR C ops K (o::rest) ⟨s,h⟩:=by
 subst er
 exact DR_c t hg hd ht' e (qz1 m ho hop hm hk ha hb (by simpa using hm') hf hp) k
theorem qw5 (m t:Nat) (hg:o.guard=none) (hd:o.dst=some t) (ht':Nat.blt t C.n=true) (ho:o.op = .binOp op ty x y u) (hop:op = .eql∨op = .neq) (hm:C.P.eqGuardType C.P.depth ty=false) (hk:okEq C.P m ty=true) (hm':Nat.ble m 9000=true) (k:DRq C ops K rest ⟨upd s t (.v (.bool r')),h⟩)
  (e:jc7 C ⟨s,h⟩ o=[a,b]:=by exact dsx) (ha:aggB a=true:=by rfl) (hb:aggB b=true:=by rfl) (hf:eqS C.T m ty a b=some (p,r):=by exact dz13)
  (hp:p:=by (repeat' (with_reducible apply And.intro))<;>first|(with_reducible exact True.intro)|omega|exact lnx|(intro d hd;simp only [List.mem_cons,List.not_mem_nil,or_false] at hd;(first|(subst hd;first|trivial|exact ⟨rfl,rfl⟩)|(rcases hd with rfl|rfl<;>first|trivial|exact ⟨rfl,rfl⟩)|(rcases hd with rfl|rfl|rfl<;>first|trivial|exact ⟨rfl,rfl⟩)|(rcases hd with rfl|rfl|rfl|rfl<;>first|trivial|exact ⟨rfl,rfl⟩)|(rcases hd with rfl|rfl|rfl|rfl|rfl<;>first|trivial|exact ⟨rfl,rfl⟩)|(rcases hd with rfl|rfl|rfl|rfl|rfl|rfl<;>first|trivial|exact ⟨rfl,rfl⟩)|(rcases hd with rfl|rfl|rfl|rfl|rfl|rfl|rfl<;>first|trivial|exact ⟨rfl,rfl⟩)|(rcases hd with rfl|rfl|rfl|rfl|rfl|rfl|rfl|rfl<;>first|trivial|exact ⟨rfl,rfl⟩)|(rcases hd with rfl|rfl|rfl|rfl|rfl|rfl|rfl|rfl|rfl<;>first|trivial|exact ⟨rfl,rfl⟩)))|(intro d hd;simp only [List.mem_map,List.mem_cons,List.not_mem_nil,or_false] at hd;obtain ⟨i,_,rfl⟩:=hd;first|trivial|exact ⟨rfl,rfl⟩)|(intro d hd;simp only [List.mem_append,List.mem_map,List.mem_cons,List.not_mem_nil,or_false] at hd;rcases hd with ⟨i,_,rfl⟩|rfl<;>first|trivial|exact ⟨rfl,rfl⟩)|(intro i hi;rfl)|rfl) (er:(if op = .eql then r else !r)=r':=by exact dz14):DRq C ops K (o::rest) ⟨s,h⟩:=by
 subst er
 exact km6 t hg hd ht' e (qz1 m ho hop hm hk ha hb (by simpa using hm') hf hp) k
end
end Go.Proofs.YtmlbhiicmpgjiaaGreatDoor
