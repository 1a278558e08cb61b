/- The types and the package variables, as values stand for data. Printed by a program. Computing in a few words. Steps whose computing is left to an auto-parameter: short texts. More steps whose computing is left to an auto-parameter: guarded operations, arrays compared. Steps of walks in a mode, their computing left to auto-parameters. It speaks of no program of ours. What is handed back, part by part; pointers to own blocks that nobody writes any more. It speaks of no program of ours. Interfaces, functions without a text of their own, slices made, bytes taken for a text without a copy. It speaks of no program of ours. Steps of XIa, their computing left to auto-parameters. It speaks of no program of ours. Whole regions as one rule, their steps left to auto-parameters. It speaks of no program of ours. The first own block is let go; nil in a part of a block. It speaks of no program of ours. Calls of functions that hand back own blocks of theirs. It speaks of no program of ours. An own row is let stand: from then on nobody writes it. Methods that write through their pointer, by contracts with own blocks. It speaks of no program of ours. Regions that draw their order, whose first operation (a move) may also come late. It speaks of no program of ours. A copy into an array of one's own, its computing left to auto-parameters. It speaks of no program of ours. Structs compared; a pointer compared with nil; calls whose arguments lead to own blocks. It speaks of no program of ours. Regions that draw their order, in which one part of a result may be taken late (behind the store of the other part). It speaks of no program of ours. Regions that draw their order, in which a new block is made at any time, and one part of a result may be taken late. It speaks of no program of ours. Structs compared, in the form in which walks use it. It speaks of no program of ours. -/
import Derived.Test.YtlhdeplkmghniaaDoorSPA
import Derived.Test.YtlhdeplkmghniaaDoorProg
import Derived.Test.YtlhdeplkmghniaaDoorSPC
import Derived.Lib.IfaceNeq
import Derived.Lib.UnsafeStr
import Derived.Lib.Bytealg
set_option linter.unusedSimpArgs false
set_option linter.unusedVariables false
set_option maxRecDepth 10000
namespace Go.Proofs.YtlhdeplkmghniaaDoor
open Go.RowKit

def kT:List UInt32:=[0x428a2f98,0x71374491,0xb5c0fbcf,0xe9b5dba5,0x3956c25b,0x59f111f1,0x923f82a4,0xab1c5ed5,0xd807aa98,0x12835b01,0x243185be,0x550c7dc3,0x72be5d74,0x80deb1fe,0x9bdc06a7,0xc19bf174,0xe49b69c1,0xefbe4786,0x0fc19dc6,0x240ca1cc,0x2de92c6f,0x4a7484aa,0x5cb0a9dc,0x76f988da,0x983e5152,0xa831c66d,0xb00327c8,0xbf597fc7,0xc6e00bf3,0xd5a79147,0x06ca6351,0x14292967,0x27b70a85,0x2e1b2138,0x4d2c6dfc,0x53380d13,0x650a7354,0x766a0abb,0x81c2c92e,0x92722c85,0xa2bfe8a1,0xa81a664b,0xc24b8b70,0xc76c51a3,0xd192e819,0xd6990624,0xf40e3585,0x106aa070,0x19a4c116,0x1e376c08,0x2748774c,0x34b0bcb5,0x391c0cb3,0x4ed8aa4a,0x5b9cca4f,0x682e6ff3,0x748f82ee,0x78a5636f,0x84c87814,0x8cc70208,0x90befffa,0xa4506ceb,0xbef9a3f7,0xc67178f2]

def tyT:Nat→Option TE
 | 1=>some ⟨.other,1,8,(.v .nilFunc)⟩
 | 2=>some ⟨.int .i64,1,8,(.v (.int .i64 0))⟩
 | 3=>some ⟨.int .i64,1,8,(.v (.int .i64 0))⟩
 | 4=>some ⟨.bool,1,1,(.v (.bool false))⟩
 | 5=>some ⟨.int .u8,1,1,(.v (.int .u8 0))⟩
 | 6=>some ⟨.int .u8,1,1,(.v (.int .u8 0))⟩
 | 9=>some ⟨.str,1,16,(.v (.string (B [])))⟩
 | 21=>some ⟨.int .i32,1,4,(.v (.int .i32 0))⟩
 | 22=>some ⟨.int .u8,1,1,(.v (.int .u8 0))⟩
 | 24=>some ⟨.struct [(22,0),(3,1),(3,2),(9,3),(5,4)],5,48,(.cons (.v (.int .u8 0)) (.cons (.v (.int .i64 0)) (.cons (.v (.int .i64 0)) (.cons (.v (.string (B []))) (.cons (.v (.int .u8 0)) .nil)))))⟩
 | 26=>some ⟨.int .i64,1,8,(.v (.int .i64 0))⟩
 | 32=>some ⟨.int .u64,1,8,(.v (.int .u64 0))⟩
 | 34=>some ⟨.struct [(3,0),(32,1),(3,2),(3,3),(2,4)],5,40,(.cons (.v (.int .i64 0)) (.cons (.v (.int .u64 0)) (.cons (.v (.int .i64 0)) (.cons (.v (.int .i64 0)) (.cons (.v (.int .i64 0)) .nil)))))⟩
 | 35=>some ⟨.slice 24,1,24,(.v (.slice none 0 0))⟩
 | 42=>some ⟨.slice 51,1,24,(.v (.slice none 0 0))⟩
 | 43=>some ⟨.ptr 104,1,8,(.v (.pointer none))⟩
 | 45=>some ⟨.slice 64,1,24,(.v (.slice none 0 0))⟩
 | 47=>some ⟨.struct [(45,0)],1,24,(.cons (.v (.slice none 0 0)) .nil)⟩
 | 49=>some ⟨.struct [(3,0),(9,1),(9,2),(4,3)],4,48,(.cons (.v (.int .i64 0)) (.cons (.v (.string (B []))) (.cons (.v (.string (B []))) (.cons (.v (.bool false)) .nil))))⟩
 | 51=>some ⟨.struct [(3,0),(49,1),(3,5),(9,6)],7,80,(.cons (.v (.int .i64 0)) (.cons (.cons (.v (.int .i64 0)) (.cons (.v (.string (B []))) (.cons (.v (.string (B []))) (.cons (.v (.bool false)) .nil)))) (.cons (.v (.int .i64 0)) (.cons (.v (.string (B []))) .nil))))⟩
 | 57=>some ⟨.slice 70,1,24,(.v (.slice none 0 0))⟩
 | 64=>some ⟨.slice 9,1,24,(.v (.slice none 0 0))⟩
 | 68=>some ⟨.slice 49,1,24,(.v (.slice none 0 0))⟩
 | 70=>some ⟨.struct [(3,0),(3,1)],2,16,(.cons (.v (.int .i64 0)) (.cons (.v (.int .i64 0)) .nil))⟩
 | 72=>some ⟨.int .u8,1,1,(.v (.int .u8 0))⟩
 | 75=>some ⟨.slice 5,1,24,(.v (.slice none 0 0))⟩
 | 76=>some ⟨.array 11 9,11,176,(.cons (.v (.string (B []))) (.cons (.v (.string (B []))) (.cons (.v (.string (B []))) (.cons (.v (.string (B []))) (.cons (.v (.string (B []))) (.cons (.v (.string (B []))) (.cons (.v (.string (B []))) (.cons (.v (.string (B []))) (.cons (.v (.string (B []))) (.cons (.v (.string (B []))) (.cons (.v (.string (B []))) .nil)))))))))))⟩
 | 78=>some ⟨.struct [(75,0),(4,1)],2,32,(.cons (.v (.slice none 0 0)) (.cons (.v (.bool false)) .nil))⟩
 | 87=>some ⟨.struct [(64,0),(4,1)],2,32,(.cons (.v (.slice none 0 0)) (.cons (.v (.bool false)) .nil))⟩
 | 90=>some ⟨.int .u64,1,8,(.v (.int .u64 0))⟩
 | 102=>some ⟨.map 9 106,1,8,(.v (.map none))⟩
 | 104=>some ⟨.struct [(3,0),(102,1)],2,16,(.cons (.v (.int .i64 0)) (.cons (.v (.map none)) .nil))⟩
 | 106=>some ⟨.map 3 3,1,8,(.v (.map none))⟩
 | 121=>some ⟨.other,1,16,(.v .nilIface)⟩
 | 126=>some ⟨.array 4 2,4,32,(.arr .i64 4 (fun _=>0))⟩
 | 127=>some ⟨.array 4 9,4,64,(.cons (.v (.string (B []))) (.cons (.v (.string (B []))) (.cons (.v (.string (B []))) (.cons (.v (.string (B []))) .nil))))⟩
 | 133=>some ⟨.slice 2,1,24,(.v (.slice none 0 0))⟩
 | 144=>some ⟨.int .i64,1,8,(.v (.int .i64 0))⟩
 | 153=>some ⟨.int .u32,1,4,(.v (.int .u32 0))⟩
 | 160=>some ⟨.slice 3,1,24,(.v (.slice none 0 0))⟩
 | 164=>some ⟨.int .i64,1,8,(.v (.int .i64 0))⟩
 | 165=>some ⟨.ptr 183,1,8,(.v (.pointer none))⟩
 | 169=>some ⟨.array 24 5,24,24,(.arr .u8 24 (fun _=>0))⟩
 | 173=>some ⟨.int .u64,1,8,(.v (.int .u64 0))⟩
 | 183=>some ⟨.struct [(9,0),(9,1),(121,2)],3,48,(.cons (.v (.string (B []))) (.cons (.v (.string (B []))) (.cons (.v .nilIface) .nil)))⟩
 | 186=>some ⟨.array 20 90,20,160,(.arr .u64 20 (fun _=>0))⟩
 | 187=>some ⟨.array 65 5,65,65,(.arr .u8 65 (fun _=>0))⟩
 | 192=>some ⟨.array 256 5,256,256,(.arr .u8 256 (fun _=>0))⟩
 | 194=>some ⟨.struct [(5,0),(5,1)],2,2,(.cons (.v (.int .u8 0)) (.cons (.v (.int .u8 0)) .nil))⟩
 | 195=>some ⟨.array 16 194,32,32,(.cons (.cons (.v (.int .u8 0)) (.cons (.v (.int .u8 0)) .nil)) (.cons (.cons (.v (.int .u8 0)) (.cons (.v (.int .u8 0)) .nil)) (.cons (.cons (.v (.int .u8 0)) (.cons (.v (.int .u8 0)) .nil)) (.cons (.cons (.v (.int .u8 0)) (.cons (.v (.int .u8 0)) .nil)) (.cons (.cons (.v (.int .u8 0)) (.cons (.v (.int .u8 0)) .nil)) (.cons (.cons (.v (.int .u8 0)) (.cons (.v (.int .u8 0)) .nil)) (.cons (.cons (.v (.int .u8 0)) (.cons (.v (.int .u8 0)) .nil)) (.cons (.cons (.v (.int .u8 0)) (.cons (.v (.int .u8 0)) .nil)) (.cons (.cons (.v (.int .u8 0)) (.cons (.v (.int .u8 0)) .nil)) (.cons (.cons (.v (.int .u8 0)) (.cons (.v (.int .u8 0)) .nil)) (.cons (.cons (.v (.int .u8 0)) (.cons (.v (.int .u8 0)) .nil)) (.cons (.cons (.v (.int .u8 0)) (.cons (.v (.int .u8 0)) .nil)) (.cons (.cons (.v (.int .u8 0)) (.cons (.v (.int .u8 0)) .nil)) (.cons (.cons (.v (.int .u8 0)) (.cons (.v (.int .u8 0)) .nil)) (.cons (.cons (.v (.int .u8 0)) (.cons (.v (.int .u8 0)) .nil)) (.cons (.cons (.v (.int .u8 0)) (.cons (.v (.int .u8 0)) .nil)) .nil))))))))))))))))⟩
 | 198=>some ⟨.ptr 5,1,8,(.v (.pointer none))⟩
 | 199=>some ⟨.ptr 201,1,8,(.v (.pointer none))⟩
 | 201=>some ⟨.struct [(9,0)],1,16,(.cons (.v (.string (B []))) .nil)⟩
 | 203=>some ⟨.array 32 5,32,32,(.arr .u8 32 (fun _=>0))⟩
 | 204=>some ⟨.array 64 5,64,64,(.arr .u8 64 (fun _=>0))⟩
 | _=>none
set_option maxRecDepth 20000 in
set_option maxHeartbeats 4000000 in
theorem vg1:TOK Tryd.prog tyT:=by
 intro t e h
 unfold tyT at h
 split at h
 all_goals first|(cases h;kernel_rfl)|(cases h;done)
def gtab:Nat→D
 | 0=>.cons (.v (.string (B []))) (.cons (.v (.string (B [99,108,105,101,110,116]))) (.cons (.v (.string (B [116,105,99,107]))) (.cons (.v (.string (B [103,111,115,115,105,112]))) (.cons (.v (.string (B [104,101,97,100]))) (.cons (.v (.string (B [102,97,105,108]))) (.cons (.v (.string (B [100,101,108,105,118,101,114]))) (.cons (.v (.string (B [100,114,111,112]))) (.cons (.v (.string (B [100,111,117,98,108,101]))) (.cons (.v (.string (B [105,110,106,101,99,116]))) (.cons (.v (.string (B [102,111,114,103,101]))) .nil))))))))))
 | 2=>.pr isIf
 | 3=>.pr isIf
 | 4=>.arr .u64 20 (fun i=>((10 ^ i:Nat):Int))
 | _=>.dead
def ja4 (P:Program):Env:=⟨P,tyT,gtab,9⟩
theorem qt7:Tryd.prog.follows .mixedOrders=true:=by kernel_rfl
theorem dsx {p:Prop} (h:p:=by (simp only [ja6,implies_true,setD,bslF,je3,jd6,List.zip_cons_cons,List.zip_nil_right,List.zip_nil_left,ja8,rng0,rng1,rng2,rng3,rng4,rng5,rng6,rng7,rng8,List.getD_cons_zero,List.getD_cons_succ,Nat.reduceLeDiff,decide_true,decide_false,List.all_cons,List.all_nil,dqF,nilF,jg0,ja9,Op.operands,Call.operands,evD,cD,gip,upd,look,List.map,List.map_cons,List.map_nil,binF,binI,shI,binS,unF,wD,kLo,kHi,kMod,jf8,jf3,jf5,je5,je4,je7,je6,lenF,lenD,je0,jd9,minF,jd7,cutL,bndF,sub,nc,aggT,aggB,scB,tnth,elems,L_B,L_mk,List.getElem?_cons_zero,List.getElem?_cons_succ,reduceIte,reduceCtorEq,Option.isSome,List.toList_toArray,Nat.reduceAdd,Nat.reduceSub,Nat.reduceMul,Nat.reduceEqDiff,Nat.reduceLT,Nat.reduceBEq,mkF,mkG,Bool.and_true,Bool.true_and,Bool.and_false,Bool.false_and,beq_self_eq_true,mkC,Int.reduceToNat,Int.toNat_natCast,Int.reduceAdd,Int.reduceSub,Int.reduceMul,Nat.zero_add,Nat.add_zero,Nat.mul_one,and_true,true_and,Option.getD_some,Option.getD_none,ne_eq,not_true_eq_false,not_false_eq_true,decide_not,Bool.not_true,Bool.not_false,Int.reduceLT,Int.reduceLE,Int.reduceEq,Int.reduceNe,Int.reduceGT,Int.reduceGE,gt_iff_lt,ge_iff_le,Nat.reduceLT,Nat.reduceLeDiff,u32D,u8D,iD,bD,strD,jb8,jc1,jb4,jb3,jb5,jb7,jb6,jc3,jc2,ja4,tyT,gtab,hX];exact rfl)):p:=h
theorem dsy {p:Prop} (h:p:=by (simp only [ja6,implies_true,setD,bslF,je3,jd6,List.zip_cons_cons,List.zip_nil_right,List.zip_nil_left,ja8,rng0,rng1,rng2,rng3,rng4,rng5,rng6,rng7,rng8,List.getD_cons_zero,List.getD_cons_succ,Nat.reduceLeDiff,decide_true,decide_false,List.all_cons,List.all_nil,dqF,nilF,jg0,ja9,Op.operands,Call.operands,evD,cD,gip,upd,look,List.map,List.map_cons,List.map_nil,binF,binI,shI,binS,unF,wD,kLo,kHi,kMod,jf8,jf3,jf5,je5,je4,je7,je6,lenF,lenD,je0,jd9,minF,jd7,cutL,bndF,sub,nc,aggT,aggB,scB,tnth,elems,L_B,L_mk,List.getElem?_cons_zero,List.getElem?_cons_succ,reduceIte,reduceCtorEq,Option.isSome,List.toList_toArray,Nat.reduceAdd,Nat.reduceSub,Nat.reduceMul,Nat.reduceEqDiff,Nat.reduceLT,Nat.reduceBEq,mkF,mkG,Bool.and_true,Bool.true_and,Bool.and_false,Bool.false_and,beq_self_eq_true,mkC,Int.reduceToNat,Int.toNat_natCast,Int.reduceAdd,Int.reduceSub,Int.reduceMul,Nat.zero_add,Nat.add_zero,Nat.mul_one,and_true,true_and,Option.getD_some,Option.getD_none,ne_eq,not_true_eq_false,not_false_eq_true,decide_not,Bool.not_true,Bool.not_false,Int.reduceLT,Int.reduceLE,Int.reduceEq,Int.reduceNe,Int.reduceGT,Int.reduceGE,gt_iff_lt,ge_iff_le,Nat.reduceLT,Nat.reduceLeDiff,u32D,u8D,iD,bD,strD,jb8,jc1,jb4,jb3,jb5,jb7,jb6,jc3,jc2,ja4,tyT,gtab,hX]<;>exact rfl)):p:=h
theorem dsh {p:Prop} (h:p:=by (simp only [ja6,implies_true,setD,bslF,je3,jd6,List.zip_cons_cons,List.zip_nil_right,List.zip_nil_left,ja8,rng0,rng1,rng2,rng3,rng4,rng5,rng6,rng7,rng8,List.getD_cons_zero,List.getD_cons_succ,Nat.reduceLeDiff,decide_true,decide_false,List.all_cons,List.all_nil,dqF,nilF,jg0,ja9,Op.operands,Call.operands,evD,cD,gip,upd,look,List.map,List.map_cons,List.map_nil,binF,binI,shI,binS,unF,wD,kLo,kHi,kMod,jf8,jf3,jf5,je5,je4,je7,je6,lenF,lenD,je0,jd9,minF,jd7,cutL,bndF,sub,nc,aggT,aggB,scB,tnth,elems,L_B,L_mk,List.getElem?_cons_zero,List.getElem?_cons_succ,reduceIte,reduceCtorEq,Option.isSome,List.toList_toArray,Nat.reduceAdd,Nat.reduceSub,Nat.reduceMul,Nat.reduceEqDiff,Nat.reduceLT,Nat.reduceBEq,mkF,mkG,Bool.and_true,Bool.true_and,Bool.and_false,Bool.false_and,beq_self_eq_true,mkC,Int.reduceToNat,Int.toNat_natCast,Int.reduceAdd,Int.reduceSub,Int.reduceMul,Nat.zero_add,Nat.add_zero,Nat.mul_one,and_true,true_and,Option.getD_some,Option.getD_none,ne_eq,not_true_eq_false,not_false_eq_true,decide_not,Bool.not_true,Bool.not_false,Int.reduceLT,Int.reduceLE,Int.reduceEq,Int.reduceNe,Int.reduceGT,Int.reduceGE,gt_iff_lt,ge_iff_le,Nat.reduceLT,Nat.reduceLeDiff,u32D,u8D,iD,bD,strD,jb8,jc1,jb4,jb3,jb5,jb7,jb6,jc3,jc2,hX]<;>exact rfl)):p:=h
theorem dsa {p:Prop} (h:p:=by (simp only [Array.toList_append,List.cons_append,List.nil_append,ja6,implies_true,setD,bslF,je3,jd6,List.zip_cons_cons,List.zip_nil_right,List.zip_nil_left,ja8,rng0,rng1,rng2,rng3,rng4,rng5,rng6,rng7,rng8,List.getD_cons_zero,List.getD_cons_succ,Nat.reduceLeDiff,decide_true,decide_false,List.all_cons,List.all_nil,dqF,nilF,jg0,ja9,Op.operands,Call.operands,evD,cD,gip,upd,look,List.map,List.map_cons,List.map_nil,binF,binI,shI,binS,unF,wD,kLo,kHi,kMod,jf8,jf3,jf5,je5,je4,je7,je6,lenF,lenD,je0,jd9,minF,jd7,cutL,bndF,sub,nc,aggT,aggB,scB,tnth,elems,L_B,L_mk,List.getElem?_cons_zero,List.getElem?_cons_succ,reduceIte,reduceCtorEq,Option.isSome,List.toList_toArray,Nat.reduceAdd,Nat.reduceSub,Nat.reduceMul,Nat.reduceEqDiff,Nat.reduceLT,Nat.reduceBEq,mkF,mkG,Bool.and_true,Bool.true_and,Bool.and_false,Bool.false_and,beq_self_eq_true,mkC,Int.reduceToNat,Int.toNat_natCast,Int.reduceAdd,Int.reduceSub,Int.reduceMul,Nat.zero_add,Nat.add_zero,Nat.mul_one,and_true,true_and,Option.getD_some,Option.getD_none,ne_eq,not_true_eq_false,not_false_eq_true,decide_not,Bool.not_true,Bool.not_false,Int.reduceLT,Int.reduceLE,Int.reduceEq,Int.reduceNe,Int.reduceGT,Int.reduceGE,gt_iff_lt,ge_iff_le,Nat.reduceLT,Nat.reduceLeDiff,u32D,u8D,iD,bD,strD,jb8,jc1,jb4,jb3,jb5,jb7,jb6,jc3,jc2,ja4,tyT,gtab,hX];exact rfl)):p:=h
theorem dsb {p:Prop} (h:p:=by (simp only [Array.toList_append,List.cons_append,List.nil_append,ja6,implies_true,setD,bslF,je3,jd6,List.zip_cons_cons,List.zip_nil_right,List.zip_nil_left,ja8,rng0,rng1,rng2,rng3,rng4,rng5,rng6,rng7,rng8,List.getD_cons_zero,List.getD_cons_succ,Nat.reduceLeDiff,decide_true,decide_false,List.all_cons,List.all_nil,dqF,nilF,jg0,ja9,Op.operands,Call.operands,evD,cD,gip,upd,look,List.map,List.map_cons,List.map_nil,binF,binI,shI,binS,unF,wD,kLo,kHi,kMod,jf8,jf3,jf5,je5,je4,je7,je6,lenF,lenD,je0,jd9,minF,jd7,cutL,bndF,sub,nc,aggT,aggB,scB,tnth,elems,L_B,L_mk,List.getElem?_cons_zero,List.getElem?_cons_succ,reduceIte,reduceCtorEq,Option.isSome,List.toList_toArray,Nat.reduceAdd,Nat.reduceSub,Nat.reduceMul,Nat.reduceEqDiff,Nat.reduceLT,Nat.reduceBEq,mkF,mkG,Bool.and_true,Bool.true_and,Bool.and_false,Bool.false_and,beq_self_eq_true,mkC,Int.reduceToNat,Int.toNat_natCast,Int.reduceAdd,Int.reduceSub,Int.reduceMul,Nat.zero_add,Nat.add_zero,Nat.mul_one,and_true,true_and,Option.getD_some,Option.getD_none,ne_eq,not_true_eq_false,not_false_eq_true,decide_not,Bool.not_true,Bool.not_false,Int.reduceLT,Int.reduceLE,Int.reduceEq,Int.reduceNe,Int.reduceGT,Int.reduceGE,gt_iff_lt,ge_iff_le,Nat.reduceLT,Nat.reduceLeDiff,u32D,u8D,iD,bD,strD,jb8,jc1,jb4,jb3,jb5,jb7,jb6,jc3,jc2,ja4,tyT,gtab,hX]<;>exact rfl)):p:=h
theorem dse {p:Prop} (h:p:=by (simp only [St.put,kilH,kil,kilB,List.map,List.set,List.length,List.nil_append,List.cons_append,List.append_nil,Option.map,jn0,setD,srcD,ja6,ja6,implies_true,setD,bslF,je3,jd6,List.zip_cons_cons,List.zip_nil_right,List.zip_nil_left,ja8,rng0,rng1,rng2,rng3,rng4,rng5,rng6,rng7,rng8,List.getD_cons_zero,List.getD_cons_succ,Nat.reduceLeDiff,decide_true,decide_false,List.all_cons,List.all_nil,dqF,nilF,jg0,ja9,Op.operands,Call.operands,evD,cD,gip,upd,look,List.map,List.map_cons,List.map_nil,binF,binI,shI,binS,unF,wD,kLo,kHi,kMod,jf8,jf3,jf5,je5,je4,je7,je6,lenF,lenD,je0,jd9,minF,jd7,cutL,bndF,sub,nc,aggT,aggB,scB,tnth,elems,L_B,L_mk,List.getElem?_cons_zero,List.getElem?_cons_succ,reduceIte,reduceCtorEq,Option.isSome,List.toList_toArray,Nat.reduceAdd,Nat.reduceSub,Nat.reduceMul,Nat.reduceEqDiff,Nat.reduceLT,Nat.reduceBEq,mkF,mkG,Bool.and_true,Bool.true_and,Bool.and_false,Bool.false_and,beq_self_eq_true,mkC,Int.reduceToNat,Int.toNat_natCast,Int.reduceAdd,Int.reduceSub,Int.reduceMul,Nat.zero_add,Nat.add_zero,Nat.mul_one,and_true,true_and,Option.getD_some,Option.getD_none,u32D,u8D,iD,bD,strD,jb8,jc1,jb4,jb3,jb5,jb7,jb6,jc3,jc2,hX,ja4,tyT,gtab];exact rfl)):p:=h
theorem dsf {p:Prop} (h:p:=by (simp only [St.put,kilH,kil,kilB,List.map,List.set,List.length,List.nil_append,List.cons_append,List.append_nil,Option.map,jn0,setD,srcD,ja6,ja6,implies_true,setD,bslF,je3,jd6,List.zip_cons_cons,List.zip_nil_right,List.zip_nil_left,ja8,rng0,rng1,rng2,rng3,rng4,rng5,rng6,rng7,rng8,List.getD_cons_zero,List.getD_cons_succ,Nat.reduceLeDiff,decide_true,decide_false,List.all_cons,List.all_nil,dqF,nilF,jg0,ja9,Op.operands,Call.operands,evD,cD,gip,upd,look,List.map,List.map_cons,List.map_nil,binF,binI,shI,binS,unF,wD,kLo,kHi,kMod,jf8,jf3,jf5,je5,je4,je7,je6,lenF,lenD,je0,jd9,minF,jd7,cutL,bndF,sub,nc,aggT,aggB,scB,tnth,elems,L_B,L_mk,List.getElem?_cons_zero,List.getElem?_cons_succ,reduceIte,reduceCtorEq,Option.isSome,List.toList_toArray,Nat.reduceAdd,Nat.reduceSub,Nat.reduceMul,Nat.reduceEqDiff,Nat.reduceLT,Nat.reduceBEq,mkF,mkG,Bool.and_true,Bool.true_and,Bool.and_false,Bool.false_and,beq_self_eq_true,mkC,Int.reduceToNat,Int.toNat_natCast,Int.reduceAdd,Int.reduceSub,Int.reduceMul,Nat.zero_add,Nat.add_zero,Nat.mul_one,and_true,true_and,Option.getD_some,Option.getD_none,ne_eq,not_true_eq_false,not_false_eq_true,decide_not,Bool.not_true,Bool.not_false,Int.reduceLT,Int.reduceLE,Int.reduceEq,Int.reduceNe,Int.reduceGT,Int.reduceGE,gt_iff_lt,ge_iff_le,Nat.reduceLT,Nat.reduceLeDiff,u32D,u8D,iD,bD,strD,jb8,jc1,jb4,jb3,jb5,jb7,jb6,jc3,jc2,hX,ja4,tyT,gtab]<;>exact rfl)):p:=h
theorem dsd {p:Prop} (h:p:=by (simp only [ja6,implies_true,setD,bslF,je3,jd6,List.zip_cons_cons,List.zip_nil_right,List.zip_nil_left,ja8,rng0,rng1,rng2,rng3,rng4,rng5,rng6,rng7,rng8,List.getD_cons_zero,List.getD_cons_succ,Nat.reduceLeDiff,decide_true,decide_false,List.all_cons,List.all_nil,dqF,nilF,jg0,ja9,Op.operands,Call.operands,evD,cD,gip,upd,look,List.map,List.map_cons,List.map_nil,binF,binI,shI,binS,unF,wD,kLo,kHi,kMod,jf8,jf3,jf5,je5,je4,je7,je6,lenF,lenD,je0,jd9,minF,jd7,cutL,bndF,sub,nc,aggT,aggB,scB,tnth,elems,L_B,L_mk,List.getElem?_cons_zero,List.getElem?_cons_succ,reduceIte,reduceCtorEq,Option.isSome,List.toList_toArray,Nat.reduceAdd,Nat.reduceSub,Nat.reduceMul,Nat.reduceEqDiff,Nat.reduceLT,Nat.reduceBEq,mkF,mkG,Bool.and_true,Bool.true_and,Bool.and_false,Bool.false_and,beq_self_eq_true,mkC,Int.reduceToNat,Int.toNat_natCast,Int.reduceAdd,Int.reduceSub,Int.reduceMul,Nat.zero_add,Nat.add_zero,Nat.mul_one,and_true,true_and,Option.getD_some,Option.getD_none,u32D,u8D,iD,bD,strD,jb8,jc1,jb4,jb3,jb5,jb7,jb6,jc3,jc2,ja4,tyT,gtab,hX];exact rfl)):p:=h
theorem lnx {p:Prop} (h:p:=by (simp only [L_B,L_mk,bndF,Option.getD_some,Option.getD_none,List.length_cons,List.length_nil,List.length_append,List.length_map,List.length_range,List.length_drop,List.length_take,List.length_replicate,List.length_set,List.length_reverse,hX]<;>omega)):p:=h
theorem dz0 {p:Prop} (h:p:=by (simp only [ja6,implies_true,setD,bslF,je3,jd6,List.zip_cons_cons,List.zip_nil_right,List.zip_nil_left,ja8,rng0,rng1,rng2,rng3,rng4,rng5,rng6,rng7,rng8,List.getD_cons_zero,List.getD_cons_succ,Nat.reduceLeDiff,decide_true,decide_false,List.all_cons,List.all_nil,dqF,nilF,jg0,ja9,Op.operands,Call.operands,evD,cD,gip,upd,look,List.map,List.map_cons,List.map_nil,binF,binI,shI,binS,unF,wD,kLo,kHi,kMod,jf8,jf3,jf5,je5,je4,je7,je6,lenF,lenD,je0,jd7,cutL,bndF,sub,nc,aggT,aggB,scB,tnth,elems,L_B,L_mk,List.getElem?_cons_zero,List.getElem?_cons_succ,reduceIte,reduceCtorEq,Option.isSome,List.toList_toArray,Nat.reduceAdd,Nat.reduceSub,Nat.reduceMul,Nat.reduceEqDiff,Nat.reduceLT,Nat.reduceBEq,mkF,Bool.and_true,Bool.true_and,Bool.and_false,Bool.false_and,beq_self_eq_true,mkC,Int.reduceToNat,Int.toNat_natCast,Int.reduceAdd,Int.reduceSub,Int.reduceMul,Nat.zero_add,Nat.add_zero,Nat.mul_one,and_true,true_and,Option.getD_some,Option.getD_none,u32D,u8D,iD,bD,strD,jb8,jc1,jb4,jb3,jb5,jb7,jb6,jc3,jc2,ja4,tyT,gtab,hX];exact rfl)):p:=h
theorem dz1 {p:Prop} (h:p:=by (simp only [St.put,kilH,kilB,kil,List.map_cons,List.map_nil,List.set,List.length,List.nil_append,List.cons_append,List.append_nil,Option.map,L_B,Nat.reduceAdd,Nat.zero_add,reduceIte,Nat.reduceEqDiff,hX];exact rfl)):p:=h
theorem dz2 {p:Prop} (h:p:=by (simp only [St.put,kilH,kil,kilB,List.map,List.set,List.length,List.nil_append,List.cons_append,List.append_nil,Option.map,jn0,setD,srcD,ja6,ja6,implies_true,setD,bslF,je3,jd6,List.zip_cons_cons,List.zip_nil_right,List.zip_nil_left,ja8,rng0,rng1,rng2,rng3,rng4,rng5,rng6,rng7,rng8,List.getD_cons_zero,List.getD_cons_succ,Nat.reduceLeDiff,decide_true,decide_false,List.all_cons,List.all_nil,dqF,nilF,jg0,ja9,Op.operands,Call.operands,evD,cD,gip,upd,look,List.map,List.map_cons,List.map_nil,binF,binI,shI,binS,unF,wD,kLo,kHi,kMod,jf8,jf3,jf5,je5,je4,je7,je6,lenF,lenD,je0,jd7,cutL,bndF,sub,nc,aggT,aggB,scB,tnth,elems,L_B,L_mk,List.getElem?_cons_zero,List.getElem?_cons_succ,reduceIte,reduceCtorEq,Option.isSome,List.toList_toArray,Nat.reduceAdd,Nat.reduceSub,Nat.reduceMul,Nat.reduceEqDiff,Nat.reduceLT,Nat.reduceBEq,mkF,Bool.and_true,Bool.true_and,Bool.and_false,Bool.false_and,beq_self_eq_true,mkC,Int.reduceToNat,Int.toNat_natCast,Int.reduceAdd,Int.reduceSub,Int.reduceMul,Nat.zero_add,Nat.add_zero,Nat.mul_one,and_true,true_and,Option.getD_some,Option.getD_none,u32D,u8D,iD,bD,strD,jb8,jc1,jb4,jb3,jb5,jb7,jb6,jc3,jc2,ja4,tyT,gtab,hX];exact rfl)):p:=h
theorem dz5 {p:Prop} (h:p:=by (simp only [eqaF,and_self,if_true,ja6,implies_true,setD,bslF,je3,jd6,List.zip_cons_cons,List.zip_nil_right,List.zip_nil_left,ja8,rng0,rng1,rng2,rng3,rng4,rng5,rng6,rng7,rng8,List.getD_cons_zero,List.getD_cons_succ,Nat.reduceLeDiff,decide_true,decide_false,List.all_cons,List.all_nil,dqF,nilF,jg0,ja9,Op.operands,Call.operands,evD,cD,gip,upd,look,List.map,List.map_cons,List.map_nil,binF,binI,shI,binS,unF,wD,kLo,kHi,kMod,jf8,jf3,jf5,je5,je4,je7,je6,lenF,lenD,je0,jd9,minF,jd7,cutL,bndF,sub,nc,aggT,aggB,scB,tnth,elems,L_B,L_mk,List.getElem?_cons_zero,List.getElem?_cons_succ,reduceIte,reduceCtorEq,Option.isSome,List.toList_toArray,Nat.reduceAdd,Nat.reduceSub,Nat.reduceMul,Nat.reduceEqDiff,Nat.reduceLT,Nat.reduceBEq,mkF,mkG,Bool.and_true,Bool.true_and,Bool.and_false,Bool.false_and,beq_self_eq_true,mkC,Int.reduceToNat,Int.toNat_natCast,Int.reduceAdd,Int.reduceSub,Int.reduceMul,Nat.zero_add,Nat.add_zero,Nat.mul_one,and_true,true_and,Option.getD_some,Option.getD_none,u32D,u8D,iD,bD,strD,jb8,jc1,jb4,jb3,jb5,jb7,jb6,jc3,jc2,ja4,tyT,gtab,hX];exact rfl)):p:=h
theorem dz6 {p:Prop} (h:p:=by (simp only [pick,kil,ja6,implies_true,setD,bslF,je3,jd6,List.zip_cons_cons,List.zip_nil_right,List.zip_nil_left,ja8,rng0,rng1,rng2,rng3,rng4,rng5,rng6,rng7,rng8,List.getD_cons_zero,List.getD_cons_succ,Nat.reduceLeDiff,decide_true,decide_false,List.all_cons,List.all_nil,dqF,nilF,jg0,ja9,Op.operands,Call.operands,evD,cD,gip,upd,look,List.map,List.map_cons,List.map_nil,binF,binI,shI,binS,unF,wD,kLo,kHi,kMod,jf8,jf3,jf5,je5,je4,je7,je6,lenF,lenD,je0,jd9,minF,jd7,cutL,bndF,sub,nc,aggT,aggB,scB,tnth,elems,L_B,L_mk,List.getElem?_cons_zero,List.getElem?_cons_succ,reduceIte,reduceCtorEq,Option.isSome,List.toList_toArray,Nat.reduceAdd,Nat.reduceSub,Nat.reduceMul,Nat.reduceEqDiff,Nat.reduceLT,Nat.reduceBEq,mkF,mkG,Bool.and_true,Bool.true_and,Bool.and_false,Bool.false_and,beq_self_eq_true,mkC,Int.reduceToNat,Int.toNat_natCast,Int.reduceAdd,Int.reduceSub,Int.reduceMul,Nat.zero_add,Nat.add_zero,Nat.mul_one,and_true,true_and,Option.getD_some,Option.getD_none,ne_eq,not_true_eq_false,not_false_eq_true,decide_not,Bool.not_true,Bool.not_false,Int.reduceLT,Int.reduceLE,Int.reduceEq,Int.reduceNe,Int.reduceGT,Int.reduceGE,gt_iff_lt,ge_iff_le,Nat.reduceLT,Nat.reduceLeDiff,u32D,u8D,iD,bD,strD,jb8,jc1,jb4,jb3,jb5,jb7,jb6,jc3,jc2,hX];exact rfl)):p:=h
theorem dz7 {p:Prop} (h:p:=by (simp only [jh9,Array.toList_append,List.cons_append,List.nil_append,ja6,implies_true,setD,bslF,je3,jd6,List.zip_cons_cons,List.zip_nil_right,List.zip_nil_left,ja8,rng0,rng1,rng2,rng3,rng4,rng5,rng6,rng7,rng8,List.getD_cons_zero,List.getD_cons_succ,Nat.reduceLeDiff,decide_true,decide_false,List.all_cons,List.all_nil,dqF,nilF,jg0,ja9,Op.operands,Call.operands,evD,cD,gip,upd,look,List.map,List.map_cons,List.map_nil,binF,binI,shI,binS,unF,wD,kLo,kHi,kMod,jf8,jf3,jf5,je5,je4,je7,je6,lenF,lenD,je0,jd9,minF,jd7,cutL,bndF,sub,nc,aggT,aggB,scB,tnth,elems,L_B,L_mk,List.getElem?_cons_zero,List.getElem?_cons_succ,reduceIte,reduceCtorEq,Option.isSome,List.toList_toArray,Nat.reduceAdd,Nat.reduceSub,Nat.reduceMul,Nat.reduceEqDiff,Nat.reduceLT,Nat.reduceBEq,mkF,mkG,Bool.and_true,Bool.true_and,Bool.and_false,Bool.false_and,beq_self_eq_true,mkC,Int.reduceToNat,Int.toNat_natCast,Int.reduceAdd,Int.reduceSub,Int.reduceMul,Nat.zero_add,Nat.add_zero,Nat.mul_one,and_true,true_and,Option.getD_some,Option.getD_none,ne_eq,not_true_eq_false,not_false_eq_true,decide_not,Bool.not_true,Bool.not_false,Int.reduceLT,Int.reduceLE,Int.reduceEq,Int.reduceNe,Int.reduceGT,Int.reduceGE,gt_iff_lt,ge_iff_le,Nat.reduceLT,Nat.reduceLeDiff,u32D,u8D,iD,bD,strD,jb8,jc1,jb4,jb3,jb5,jb7,jb6,jc3,jc2,ja4,tyT,gtab,hX];exact rfl)):p:=h
theorem dz9 {p:Prop} (h:p:=by (simp only [St.put,kilH,kil,kilB,List.map,List.set,List.length,List.nil_append,List.cons_append,List.append_nil,Option.map,jn0,setD,srcD,ja6,ja6,implies_true,setD,bslF,je3,jd6,List.zip_cons_cons,List.zip_nil_right,List.zip_nil_left,ja8,rng0,rng1,rng2,rng3,rng4,rng5,rng6,rng7,rng8,List.getD_cons_zero,List.getD_cons_succ,Nat.reduceLeDiff,decide_true,decide_false,List.all_cons,List.all_nil,dqF,nilF,jg0,ja9,Op.operands,Call.operands,evD,cD,gip,upd,look,List.map,List.map_cons,List.map_nil,binF,binI,shI,binS,unF,wD,kLo,kHi,kMod,jf8,jf3,jf5,je5,je4,je7,je6,lenF,lenD,je0,jd9,minF,jd7,cutL,bndF,sub,nc,aggT,aggB,scB,tnth,elems,L_B,L_mk,List.getElem?_cons_zero,List.getElem?_cons_succ,reduceIte,reduceCtorEq,Option.isSome,List.toList_toArray,Nat.reduceAdd,Nat.reduceSub,Nat.reduceMul,Nat.reduceEqDiff,Nat.reduceLT,Nat.reduceBEq,mkF,mkG,Bool.and_true,Bool.true_and,Bool.and_false,Bool.false_and,beq_self_eq_true,mkC,Int.reduceToNat,Int.toNat_natCast,Int.reduceAdd,Int.reduceSub,Int.reduceMul,Nat.zero_add,Nat.add_zero,Nat.mul_one,and_true,true_and,Option.getD_some,Option.getD_none,ne_eq,not_true_eq_false,not_false_eq_true,decide_not,Bool.not_true,Bool.not_false,Int.reduceLT,Int.reduceLE,Int.reduceEq,Int.reduceNe,Int.reduceGT,Int.reduceGE,gt_iff_lt,ge_iff_le,Nat.reduceLT,Nat.reduceLeDiff,u32D,u8D,iD,bD,strD,jb8,jc1,jb4,jb3,jb5,jb7,jb6,jc3,jc2,ja4,tyT,gtab,hX]<;>exact rfl)):p:=h
theorem dz10 {p:Prop} (h:p:=by (simp only [kO,kil,Array.toList_append,List.cons_append,List.nil_append,ja6,implies_true,setD,bslF,je3,jd6,List.zip_cons_cons,List.zip_nil_right,List.zip_nil_left,ja8,rng0,rng1,rng2,rng3,rng4,rng5,rng6,rng7,rng8,List.getD_cons_zero,List.getD_cons_succ,Nat.reduceLeDiff,decide_true,decide_false,List.all_cons,List.all_nil,dqF,nilF,jg0,ja9,Op.operands,Call.operands,evD,cD,gip,upd,look,List.map,List.map_cons,List.map_nil,binF,binI,shI,binS,unF,wD,kLo,kHi,kMod,jf8,jf3,jf5,je5,je4,je7,je6,lenF,lenD,je0,jd9,minF,jd7,cutL,bndF,sub,nc,aggT,aggB,scB,tnth,elems,L_B,L_mk,List.getElem?_cons_zero,List.getElem?_cons_succ,reduceIte,reduceCtorEq,Option.isSome,List.toList_toArray,Nat.reduceAdd,Nat.reduceSub,Nat.reduceMul,Nat.reduceEqDiff,Nat.reduceLT,Nat.reduceBEq,mkF,mkG,Bool.and_true,Bool.true_and,Bool.and_false,Bool.false_and,beq_self_eq_true,mkC,Int.reduceToNat,Int.toNat_natCast,Int.reduceAdd,Int.reduceSub,Int.reduceMul,Nat.zero_add,Nat.add_zero,Nat.mul_one,and_true,true_and,Option.getD_some,Option.getD_none,ne_eq,not_true_eq_false,not_false_eq_true,decide_not,Bool.not_true,Bool.not_false,Int.reduceLT,Int.reduceLE,Int.reduceEq,Int.reduceNe,Int.reduceGT,Int.reduceGE,gt_iff_lt,ge_iff_le,Nat.reduceLT,Nat.reduceLeDiff,u32D,u8D,iD,bD,strD,jb8,jc1,jb4,jb3,jb5,jb7,jb6,jc3,jc2,ja4,tyT,gtab,hX]<;>exact rfl)):p:=h
theorem dz11 {p:Prop} (h:p:=by (simp only [kO,kil,kilH,kilB,List.map_cons,List.map_nil,List.set,List.length,List.nil_append,List.cons_append,List.append_nil,Option.map,Array.toList_append,ja6,implies_true,setD,bslF,je3,jd6,List.zip_cons_cons,List.zip_nil_right,List.zip_nil_left,ja8,rng0,rng1,rng2,rng3,rng4,rng5,rng6,rng7,rng8,List.getD_cons_zero,List.getD_cons_succ,Nat.reduceLeDiff,decide_true,decide_false,List.all_cons,List.all_nil,dqF,nilF,jg0,ja9,Op.operands,Call.operands,evD,cD,gip,upd,look,List.map,List.map_cons,List.map_nil,binF,binI,shI,binS,unF,wD,kLo,kHi,kMod,jf8,jf3,jf5,je5,je4,je7,je6,lenF,lenD,je0,jd9,minF,jd7,cutL,bndF,sub,nc,aggT,aggB,scB,tnth,elems,L_B,L_mk,List.getElem?_cons_zero,List.getElem?_cons_succ,reduceIte,reduceCtorEq,Option.isSome,List.toList_toArray,Nat.reduceAdd,Nat.reduceSub,Nat.reduceMul,Nat.reduceEqDiff,Nat.reduceLT,Nat.reduceBEq,mkF,mkG,Bool.and_true,Bool.true_and,Bool.and_false,Bool.false_and,beq_self_eq_true,mkC,Int.reduceToNat,Int.toNat_natCast,Int.reduceAdd,Int.reduceSub,Int.reduceMul,Nat.zero_add,Nat.add_zero,Nat.mul_one,and_true,true_and,Option.getD_some,Option.getD_none,ne_eq,not_true_eq_false,not_false_eq_true,decide_not,Bool.not_true,Bool.not_false,Int.reduceLT,Int.reduceLE,Int.reduceEq,Int.reduceNe,Int.reduceGT,Int.reduceGE,gt_iff_lt,ge_iff_le,Nat.reduceLT,Nat.reduceLeDiff,u32D,u8D,iD,bD,strD,jb8,jc1,jb4,jb3,jb5,jb7,jb6,jc3,jc2,ja4,tyT,gtab,hX]<;>exact rfl)):p:=h
theorem dz12 {p:Prop} (h:p:=by (simp only [L_B,L_mk,bndF,Option.getD_some,Option.getD_none,List.length_cons,List.length_nil,List.length_append,List.length_map,List.length_range,List.length_drop,List.length_take,List.length_replicate,List.length_set,List.length_reverse,Nat.reduceAdd,Nat.zero_add,hX]<;>exact rfl)):p:=h
theorem dz13 {p:Prop} (h:p:=by (simp only [suD,suB,List.map_cons,List.map_nil,Option.map,List.length_cons,List.length_nil,Nat.reduceAdd,Nat.add_zero,hX]<;>exact rfl)):p:=h
theorem dz14 {p:Prop} (h:p:=by (simp only [suD,List.length_cons,List.length_nil,Nat.reduceAdd,Nat.add_zero,hX]<;>exact rfl)):p:=h
theorem dz15 {p:Prop} (h:p:=by (simp only [eqS,eqSs,and_self,if_true,ja6,implies_true,setD,bslF,je3,jd6,List.zip_cons_cons,List.zip_nil_right,List.zip_nil_left,ja8,rng0,rng1,rng2,rng3,rng4,rng5,rng6,rng7,rng8,List.getD_cons_zero,List.getD_cons_succ,Nat.reduceLeDiff,decide_true,decide_false,List.all_cons,List.all_nil,dqF,nilF,jg0,ja9,Op.operands,Call.operands,evD,cD,gip,upd,look,List.map,List.map_cons,List.map_nil,binF,binI,shI,binS,unF,wD,kLo,kHi,kMod,jf8,jf3,jf5,je5,je4,je7,je6,lenF,lenD,je0,jd9,minF,jd7,cutL,bndF,sub,nc,aggT,aggB,scB,tnth,elems,L_B,L_mk,List.getElem?_cons_zero,List.getElem?_cons_succ,reduceIte,reduceCtorEq,Option.isSome,List.toList_toArray,Nat.reduceAdd,Nat.reduceSub,Nat.reduceMul,Nat.reduceEqDiff,Nat.reduceLT,Nat.reduceBEq,mkF,mkG,Bool.and_true,Bool.true_and,Bool.and_false,Bool.false_and,beq_self_eq_true,mkC,Int.reduceToNat,Int.toNat_natCast,Int.reduceAdd,Int.reduceSub,Int.reduceMul,Nat.zero_add,Nat.add_zero,Nat.mul_one,and_true,true_and,Option.getD_some,Option.getD_none,ne_eq,not_true_eq_false,not_false_eq_true,decide_not,Bool.not_true,Bool.not_false,Int.reduceLT,Int.reduceLE,Int.reduceEq,Int.reduceNe,Int.reduceGT,Int.reduceGE,gt_iff_lt,ge_iff_le,Nat.reduceLT,Nat.reduceLeDiff,u32D,u8D,iD,bD,strD,jb8,jc1,jb4,jb3,jb5,jb7,jb6,jc3,jc2,ja4,tyT,gtab,hX];exact rfl)):p:=h
theorem dz16 {p:Prop} (h:p:=by (simp only [ja6,implies_true,setD,bslF,je3,jd6,List.zip_cons_cons,List.zip_nil_right,List.zip_nil_left,ja8,rng0,rng1,rng2,rng3,rng4,rng5,rng6,rng7,rng8,List.getD_cons_zero,List.getD_cons_succ,Nat.reduceLeDiff,decide_true,decide_false,List.all_cons,List.all_nil,dqF,nilF,jg0,ja9,Op.operands,Call.operands,evD,cD,gip,upd,look,List.map,List.map_cons,List.map_nil,binF,binI,shI,binS,unF,wD,kLo,kHi,kMod,jf8,jf3,jf5,je5,je4,je7,je6,lenF,lenD,je0,jd9,minF,jd7,cutL,bndF,sub,nc,aggT,aggB,scB,tnth,elems,L_B,L_mk,List.getElem?_cons_zero,List.getElem?_cons_succ,reduceIte,reduceCtorEq,Option.isSome,List.toList_toArray,Nat.reduceAdd,Nat.reduceSub,Nat.reduceMul,Nat.reduceEqDiff,Nat.reduceLT,Nat.reduceBEq,mkF,mkG,Bool.and_true,Bool.true_and,Bool.and_false,Bool.false_and,beq_self_eq_true,mkC,Int.reduceToNat,Int.toNat_natCast,Int.reduceAdd,Int.reduceSub,Int.reduceMul,Nat.zero_add,Nat.add_zero,Nat.mul_one,and_true,true_and,Option.getD_some,Option.getD_none,ne_eq,not_true_eq_false,not_false_eq_true,decide_not,Bool.not_true,Bool.not_false,Int.reduceLT,Int.reduceLE,Int.reduceEq,Int.reduceNe,Int.reduceGT,Int.reduceGE,gt_iff_lt,ge_iff_le,Nat.reduceLT,Nat.reduceLeDiff,hX];exact rfl)):p:=h
theorem kf1 {C:Cx}{o:Oper}{st:St}{t:Nat}{x y:Operand}{p:Prop}{h':List (Option Bk)} (ho:o.op = .store t x y) (hd:dstB C o=true) (hf:jn0 C.T st.h t (evD C st x) (evD C st y)=some (p,h'):=by exact dz2) (hp:p:=by first|exact trivial|exact ⟨by simp,rfl⟩|exact vi5 _ _|exact vg2 _|omega|(simp only [L_B,bndF,Option.getD_some,Option.getD_none,List.length_drop,List.length_take]<;>omega)|(refine ⟨?_,fun _ _=>rfl⟩;(simp only [L_B,bndF,Option.getD_some,Option.getD_none,List.length_drop,List.length_take]<;>omega))):DO C o st (St.put { st with h:=h' } o.dst .dead):=qg9 ho hd hf hp
theorem qr0 {C:Cx}{o:Oper}{st:St}{T:Nat}{x:Operand} (ho:o.op = .box T x) (hd:dstB C o=true) (hx:(aggB (evD C st x)||scB (evD C st x))=true:=by exact dz2):DO C o st (St.put { st with h:=st.h++[some (.one (evD C st x))] } o.dst (.ptr st.h.length 0)):=kz1 ho hd hx
theorem ja2 {E:Env}{C:Cx} (hE:EnvC E C) {o:Oper}{st:St}{f:FuncId}{args:Array Operand}{ts:Array TypeId}{l:Nat}{d0 d1 r:D}{xs:List D} (ho:o.op = .call { callee:=.value (.func f),args:=args,argTypes:=ts }) (hd:dstB C o=true) (hf:fnB C.P f=true)
  (hx:ja9 C st o = .fn f .nil::.ptr l 0::xs:=by exact dz0) (hp:xs.all ja8=true:=by rfl) (hl:st.h[l]?=some (some (.one d0)):=by exact dz0) (hp0:ja8 d0=true:=by rfl) (hc:PM E f d0 xs d1 r):DO C o st (St.put { st with h:=st.h.set l (some (.one d1)) } o.dst r):=ki2 hE ho hd hf hx hp hl hp0 hc
theorem qr7 {C:Cx}{ops:Array Oper}{K:St→Prop}{o:Oper}{rest:List Oper}{s:Nat→D}{h:List (Option Bk)}{op:BinOp}{ty u:Nat}{x y:Operand}{a b d:D} (t:Nat) (hg:o.guard=none) (hd:o.dst=some t) (ht':Nat.blt t C.n=true) (ho:o.op = .binOp op ty x y u)
  (k:DR C ops K rest ⟨upd s t d,h⟩) (hm:C.P.eqGuardType C.P.depth ty=false:=by kernel_rfl) (e:ja9 C ⟨s,h⟩ o=[a,b]:=by exact dsd) (hf:eqaF C.T op ty a b=some d:=by exact dz5):DR C ops K (o::rest) ⟨s,h⟩:=DR_c t hg hd ht' e (kz4 ho hm hf) k
theorem qh8 {C:Cx}{ops:Array Oper}{K:St→Prop}{o:Oper}{rest:List Oper}{s:Nat→D}{h:List (Option Bk)}{op:BinOp}{ty u:Nat}{x y:Operand}{a b d:D} (t:Nat) (hg:o.guard=none) (hd:o.dst=some t) (ht':Nat.blt t C.n=true) (ho:o.op = .binOp op ty x y u)
  (k:DRq C ops K rest ⟨upd s t d,h⟩) (hm:C.P.eqGuardType C.P.depth ty=false:=by kernel_rfl) (e:ja9 C ⟨s,h⟩ o=[a,b]:=by exact dsd) (hf:eqaF C.T op ty a b=some d:=by exact dz5):DRq C ops K (o::rest) ⟨s,h⟩:=jw2 t hg hd ht' e (kz4 ho hm hf) k
theorem kx3 {C:Cx}{o:Oper}{st:St}{s x:Operand}{t u el sz l n:Nat}{e:TE}{L es:List D}{p:Prop} (ho:o.op = .call { callee:=.builtin .append,args:=#[s,x],argTypes:=#[t,u] }) (hd:dstB C o=true) (hT:appT C t u el sz e) (hfx:C.fx l=none)
  (hs:evD C st s = .own l n el sz:=by exact dse) (hl:st.h[l]?=some (some (.row L el sz)):=by exact dse) (hx:srcD st.h (evD C st x)=some (p,es):=by exact dse) (hn:n=L.length:=by first|exact trivial|omega|(intro d hd;simp only [List.mem_cons,List.not_mem_nil,or_false,List.mem_map] at hd;rcases hd with rfl|⟨_,_,rfl⟩<;>exact ⟨rfl,rfl⟩)|(intro d hd;simp only [List.mem_cons,List.not_mem_nil,or_false,List.mem_map] at hd;rcases hd with rfl<;>exact ⟨rfl,rfl⟩)|(intro d hd;simp only [List.mem_cons,List.not_mem_nil,or_false] at hd;rcases hd with rfl|rfl<;>exact ⟨rfl,rfl⟩)|(intro d hd;simp only [List.mem_map] at hd;obtain ⟨_,_,rfl⟩:=hd;exact ⟨rfl,rfl⟩)|(simp only [L_B,List.length_append,List.length_cons,List.length_nil,List.length_map,List.length_replicate,List.length_range,hX]<;>omega)|rfl) (hp:p:=by first|exact trivial|omega|(intro d hd;simp only [List.mem_cons,List.not_mem_nil,or_false,List.mem_map] at hd;rcases hd with rfl|⟨_,_,rfl⟩<;>exact ⟨rfl,rfl⟩)|(intro d hd;simp only [List.mem_cons,List.not_mem_nil,or_false,List.mem_map] at hd;rcases hd with rfl<;>exact ⟨rfl,rfl⟩)|(intro d hd;simp only [List.mem_cons,List.not_mem_nil,or_false] at hd;rcases hd with rfl|rfl<;>exact ⟨rfl,rfl⟩)|(intro d hd;simp only [List.mem_map] at hd;obtain ⟨_,_,rfl⟩:=hd;exact ⟨rfl,rfl⟩)|(simp only [L_B,List.length_append,List.length_cons,List.length_nil,List.length_map,List.length_replicate,List.length_range,hX]<;>omega)|rfl) (hpure:∀d ∈ es,ja8 d=true∧nc d=sz:=by first|exact trivial|omega|(intro d hd;simp only [List.mem_cons,List.not_mem_nil,or_false,List.mem_map] at hd;rcases hd with rfl|⟨_,_,rfl⟩<;>exact ⟨rfl,rfl⟩)|(intro d hd;simp only [List.mem_cons,List.not_mem_nil,or_false,List.mem_map] at hd;rcases hd with rfl<;>exact ⟨rfl,rfl⟩)|(intro d hd;simp only [List.mem_cons,List.not_mem_nil,or_false] at hd;rcases hd with rfl|rfl<;>exact ⟨rfl,rfl⟩)|(intro d hd;simp only [List.mem_map] at hd;obtain ⟨_,_,rfl⟩:=hd;exact ⟨rfl,rfl⟩)|(simp only [L_B,List.length_append,List.length_cons,List.length_nil,List.length_map,List.length_replicate,List.length_range,hX]<;>omega)|rfl) (hb:(L.length+es.length)*e.bytes≤140737488355328:=by first|exact trivial|omega|(intro d hd;simp only [List.mem_cons,List.not_mem_nil,or_false,List.mem_map] at hd;rcases hd with rfl|⟨_,_,rfl⟩<;>exact ⟨rfl,rfl⟩)|(intro d hd;simp only [List.mem_cons,List.not_mem_nil,or_false,List.mem_map] at hd;rcases hd with rfl<;>exact ⟨rfl,rfl⟩)|(intro d hd;simp only [List.mem_cons,List.not_mem_nil,or_false] at hd;rcases hd with rfl|rfl<;>exact ⟨rfl,rfl⟩)|(intro d hd;simp only [List.mem_map] at hd;obtain ⟨_,_,rfl⟩:=hd;exact ⟨rfl,rfl⟩)|(simp only [L_B,List.length_append,List.length_cons,List.length_nil,List.length_map,List.length_replicate,List.length_range,hX]<;>omega)|rfl) :
  DO C o st (St.put ⟨fun t=>kil l (st.s t),(kilH l st.h).set l (some (.row (L++es) el sz))⟩ o.dst (.own l (n+es.length) el sz)):=jz6 ho hd hT hfx hs hl hx hn hp hpure hb
theorem jl0 {C:Cx}{o:Oper}{st:St}{s x:Operand}{t u el sz:Nat}{e:TE}{es:List D}{p:Prop} (ho:o.op = .call { callee:=.builtin .append,args:=#[s,x],argTypes:=#[t,u] }) (hd:dstB C o=true) (hT:appT C t u el sz e)
  (hs:evD C st s = .v (.slice none 0 0):=by exact dse) (hx:srcD st.h (evD C st x)=some (p,es):=by exact dse) (hp:p:=by first|exact trivial|omega|(intro d hd;simp only [List.mem_cons,List.not_mem_nil,or_false,List.mem_map] at hd;rcases hd with rfl|⟨_,_,rfl⟩<;>exact ⟨rfl,rfl⟩)|(intro d hd;simp only [List.mem_cons,List.not_mem_nil,or_false,List.mem_map] at hd;rcases hd with rfl<;>exact ⟨rfl,rfl⟩)|(intro d hd;simp only [List.mem_cons,List.not_mem_nil,or_false] at hd;rcases hd with rfl|rfl<;>exact ⟨rfl,rfl⟩)|(intro d hd;simp only [List.mem_map] at hd;obtain ⟨_,_,rfl⟩:=hd;exact ⟨rfl,rfl⟩)|(simp only [L_B,List.length_append,List.length_cons,List.length_nil,List.length_map,List.length_replicate,List.length_range,hX]<;>omega)|rfl) (hpure:∀d ∈ es,ja8 d=true∧nc d=sz:=by first|exact trivial|omega|(intro d hd;simp only [List.mem_cons,List.not_mem_nil,or_false,List.mem_map] at hd;rcases hd with rfl|⟨_,_,rfl⟩<;>exact ⟨rfl,rfl⟩)|(intro d hd;simp only [List.mem_cons,List.not_mem_nil,or_false,List.mem_map] at hd;rcases hd with rfl<;>exact ⟨rfl,rfl⟩)|(intro d hd;simp only [List.mem_cons,List.not_mem_nil,or_false] at hd;rcases hd with rfl|rfl<;>exact ⟨rfl,rfl⟩)|(intro d hd;simp only [List.mem_map] at hd;obtain ⟨_,_,rfl⟩:=hd;exact ⟨rfl,rfl⟩)|(simp only [L_B,List.length_append,List.length_cons,List.length_nil,List.length_map,List.length_replicate,List.length_range,hX]<;>omega)|rfl) (hb:es.length*e.bytes≤140737488355328:=by first|exact trivial|omega|(intro d hd;simp only [List.mem_cons,List.not_mem_nil,or_false,List.mem_map] at hd;rcases hd with rfl|⟨_,_,rfl⟩<;>exact ⟨rfl,rfl⟩)|(intro d hd;simp only [List.mem_cons,List.not_mem_nil,or_false,List.mem_map] at hd;rcases hd with rfl<;>exact ⟨rfl,rfl⟩)|(intro d hd;simp only [List.mem_cons,List.not_mem_nil,or_false] at hd;rcases hd with rfl|rfl<;>exact ⟨rfl,rfl⟩)|(intro d hd;simp only [List.mem_map] at hd;obtain ⟨_,_,rfl⟩:=hd;exact ⟨rfl,rfl⟩)|(simp only [L_B,List.length_append,List.length_cons,List.length_nil,List.length_map,List.length_replicate,List.length_range,hX]<;>omega)|rfl) :
  DO C o st (St.put ⟨st.s,st.h++[some (.row es el sz)]⟩ o.dst (.own st.h.length es.length el sz)):=ju3 ho hd hT hs hx hp hpure hb
theorem ki4 {C:Cx}{o:Oper}{st:St}{s t el:Nat}{x:Operand}{str:ByteArray} (ho:o.op = .convert s t x) (hd:dstB C o=true) (hS:jv0 C.T s=true) (hT:jq9 C.T t=some el) (hx:evD C st x = .v (.string str):=by exact dse) (hb:(L str).length≤140737488355328:=by first|exact trivial|omega|(intro d hd;simp only [List.mem_cons,List.not_mem_nil,or_false,List.mem_map] at hd;rcases hd with rfl|⟨_,_,rfl⟩<;>exact ⟨rfl,rfl⟩)|(intro d hd;simp only [List.mem_cons,List.not_mem_nil,or_false,List.mem_map] at hd;rcases hd with rfl<;>exact ⟨rfl,rfl⟩)|(intro d hd;simp only [List.mem_cons,List.not_mem_nil,or_false] at hd;rcases hd with rfl|rfl<;>exact ⟨rfl,rfl⟩)|(intro d hd;simp only [List.mem_map] at hd;obtain ⟨_,_,rfl⟩:=hd;exact ⟨rfl,rfl⟩)|(simp only [L_B,List.length_append,List.length_cons,List.length_nil,List.length_map,List.length_replicate,List.length_range,hX]<;>omega)|rfl) :
  DO C o st (St.put ⟨st.s,st.h++[some (.row ((L str).map ja6) el 1)]⟩ o.dst (.own st.h.length (L str).length el 1)):=jx4 ho hd hS hT hx hb
section
variable {C:Cx}{ops:Array Oper}{K:St→Prop}{o o':Oper}{rest:List Oper}{s:Nat→D}{h:List (Option Bk)}{p:Prop}{d:D}
theorem qx (t:Nat) (hg:o.guard=none) (hd:o.dst=some t) (ht':Nat.blt t C.n=true) (k:DR C ops K rest ⟨upd s t d,h⟩) (e:dqF C.T h o.op (ja9 C ⟨s,h⟩ o)=some (p,d):=by exact dsx)
  (hp:p:=by (repeat' (with_reducible apply And.intro))<;>first|(with_reducible exact True.intro)|omega|exact lnx|(intro d hd;simp only [List.mem_cons,List.not_mem_nil,or_false] at hd;(first|(subst hd;first|trivial|exact ⟨rfl,rfl⟩)|(rcases hd with rfl|rfl<;>first|trivial|exact ⟨rfl,rfl⟩)|(rcases hd with rfl|rfl|rfl<;>first|trivial|exact ⟨rfl,rfl⟩)|(rcases hd with rfl|rfl|rfl|rfl<;>first|trivial|exact ⟨rfl,rfl⟩)|(rcases hd with rfl|rfl|rfl|rfl|rfl<;>first|trivial|exact ⟨rfl,rfl⟩)|(rcases hd with rfl|rfl|rfl|rfl|rfl|rfl<;>first|trivial|exact ⟨rfl,rfl⟩)|(rcases hd with rfl|rfl|rfl|rfl|rfl|rfl|rfl<;>first|trivial|exact ⟨rfl,rfl⟩)|(rcases hd with rfl|rfl|rfl|rfl|rfl|rfl|rfl|rfl<;>first|trivial|exact ⟨rfl,rfl⟩)|(rcases hd with rfl|rfl|rfl|rfl|rfl|rfl|rfl|rfl|rfl<;>first|trivial|exact ⟨rfl,rfl⟩)))|(intro d hd;simp only [List.mem_map,List.mem_cons,List.not_mem_nil,or_false] at hd;obtain ⟨i,_,rfl⟩:=hd;first|trivial|exact ⟨rfl,rfl⟩)|(intro d hd;simp only [List.mem_append,List.mem_map,List.mem_cons,List.not_mem_nil,or_false] at hd;rcases hd with ⟨i,_,rfl⟩|rfl<;>first|trivial|exact ⟨rfl,rfl⟩)|(intro i hi;rfl)|rfl):DR C ops K (o::rest) ⟨s,h⟩:=DR_q t hg hd ht' e hp k
theorem qxq (t:Nat) (hg:o.guard=none) (hd:o.dst=some t) (ht':Nat.blt t C.n=true) (k:DRq C ops K rest ⟨upd s t d,h⟩) (e:dqF C.T h o.op (ja9 C ⟨s,h⟩ o)=some (p,d):=by exact dsx)
  (hp:p:=by (repeat' (with_reducible apply And.intro))<;>first|(with_reducible exact True.intro)|omega|exact lnx|(intro d hd;simp only [List.mem_cons,List.not_mem_nil,or_false] at hd;(first|(subst hd;first|trivial|exact ⟨rfl,rfl⟩)|(rcases hd with rfl|rfl<;>first|trivial|exact ⟨rfl,rfl⟩)|(rcases hd with rfl|rfl|rfl<;>first|trivial|exact ⟨rfl,rfl⟩)|(rcases hd with rfl|rfl|rfl|rfl<;>first|trivial|exact ⟨rfl,rfl⟩)|(rcases hd with rfl|rfl|rfl|rfl|rfl<;>first|trivial|exact ⟨rfl,rfl⟩)|(rcases hd with rfl|rfl|rfl|rfl|rfl|rfl<;>first|trivial|exact ⟨rfl,rfl⟩)|(rcases hd with rfl|rfl|rfl|rfl|rfl|rfl|rfl<;>first|trivial|exact ⟨rfl,rfl⟩)|(rcases hd with rfl|rfl|rfl|rfl|rfl|rfl|rfl|rfl<;>first|trivial|exact ⟨rfl,rfl⟩)|(rcases hd with rfl|rfl|rfl|rfl|rfl|rfl|rfl|rfl|rfl<;>first|trivial|exact ⟨rfl,rfl⟩)))|(intro d hd;simp only [List.mem_map,List.mem_cons,List.not_mem_nil,or_false] at hd;obtain ⟨i,_,rfl⟩:=hd;first|trivial|exact ⟨rfl,rfl⟩)|(intro d hd;simp only [List.mem_append,List.mem_map,List.mem_cons,List.not_mem_nil,or_false] at hd;rcases hd with ⟨i,_,rfl⟩|rfl<;>first|trivial|exact ⟨rfl,rfl⟩)|(intro i hi;rfl)|rfl):DRq C ops K (o::rest) ⟨s,h⟩:=vg5 t hg hd ht' e hp k
theorem cx {E:Env}{f:FuncId}{g:Operand}{args:Array Operand}{ts:Array TypeId}{xs:List D} (t:Nat) (hE:EnvC E C) (hg:o.guard=none) (hd:o.dst=some t) (ht':Nat.blt t C.n=true)
  (ho:o.op = .call { callee:=.value g,args:=args,argTypes:=ts }) (hf:fnB C.P f=true)
  (k:DR C ops K rest ⟨upd s t d,h⟩) (e:ja9 C ⟨s,h⟩ o = .fn f .nil::xs:=by exact dsa) (hx:xs.all ja8=true:=by rfl) (hc:PC E f xs d):DR C ops K (o::rest) ⟨s,h⟩:=DR_c t hg hd ht' e (jy2 hE ho hf hx hc) k
theorem cxq {E:Env}{f:FuncId}{g:Operand}{args:Array Operand}{ts:Array TypeId}{xs:List D} (t:Nat) (hE:EnvC E C) (hg:o.guard=none) (hd:o.dst=some t) (ht':Nat.blt t C.n=true)
  (ho:o.op = .call { callee:=.value g,args:=args,argTypes:=ts }) (hf:fnB C.P f=true)
  (k:DRq C ops K rest ⟨upd s t d,h⟩) (e:ja9 C ⟨s,h⟩ o = .fn f .nil::xs:=by exact dsa) (hx:xs.all ja8=true:=by rfl) (hc:PC E f xs d):DRq C ops K (o::rest) ⟨s,h⟩:=jw2 t hg hd ht' e (jy2 hE ho hf hx hc) k
theorem ex {st st' st'':St} (hg:o.guard=none) (hD:DO C o st st') (k:DR C ops K rest st'') (e:st'=st'':=by exact dz1):DR C ops K (o::rest) st:=DR_e hg hD e k
theorem kl1 {live:List Nat}{K:St→Prop}{l:List (Nat×D)} (k:K (mk l h)) (e:pick s live=l:=by exact dz6):KL live K ⟨s,h⟩:=fun l' hl=>by
 have:l'=l:=by rw [← hl];exact e
 rw [this];exact k
theorem gsx {g u t:Nat}{want b:Bool} (hg:o.guard=some (g,want)) (hu:(ops[g]?).bind (·.dst)=some u) (hd:o.dst=some t) (ht':Nat.blt t C.n=true)
  (kT:b=want→DR C ops K (o'::rest) ⟨upd s u (.v (.bool want)),h⟩) (kF:b=(!want)→DR C ops K rest ⟨upd (upd s u (.v (.bool (!want)))) t unD,h⟩)
  (hs:s u = .v (.bool b):=by exact dsh) (e:jp0 o=o':=by simp only [jp0];exact rfl):DR C ops K (o::rest) ⟨s,h⟩:=by
 have hsu:∀c,b=c→upd s u (.v (.bool c))=s:=fun c hc=>by
  funext i
  simp only [upd]
  split
  ·rename_i hi;subst hi;rw [hs,hc]
  ·rfl
 subst e
 by_cases hb:b=want
 ·have:=kT hb
  rw [hsu _ hb] at this
  exact DR_g hg hu (by rw [hs,hb]) this
 ·have hb':b=(!want):=by cases b<;>cases want<;>simp_all
  have:=kF hb'
  rw [hsu _ hb'] at this
  exact kq7 hg hu hd ht' (by rw [hs,hb']) this
theorem gtx {g u:Nat}{want:Bool} (hg:o.guard=some (g,want)) (hu:(ops[g]?).bind (·.dst)=some u) (k:DR C ops K (o'::rest) ⟨s,h⟩) (e:jp0 o=o':=by simp only [jp0];exact rfl) (hs:s u = .v (.bool want):=by exact dsh):DR C ops K (o::rest) ⟨s,h⟩:=by
 subst e
 exact DR_g hg hu hs k
theorem skx {g u t:Nat}{want:Bool} (hg:o.guard=some (g,want)) (hu:(ops[g]?).bind (·.dst)=some u) (hd:o.dst=some t) (ht':Nat.blt t C.n=true) (k:DR C ops K rest ⟨upd s t unD,h⟩) (hs:s u = .v (.bool (!want)):=by exact dsh):DR C ops K (o::rest) ⟨s,h⟩:=kq7 hg hu hd ht' hs k
theorem qz7 {g u t:Nat}{want:Bool} (hg:o.guard=some (g,want)) (hu:(ops[g]?).bind (·.dst)=some u) (hd:o.dst=some t) (ht':Nat.blt t C.n=true)
  (k:DR C ops K rest ⟨upd s t unD,h⟩) (hs:s u=unD:=by exact dsh):DR C ops K (o::rest) ⟨s,h⟩:=by
 refine .inr ⟨by simp [jg9,hg,hu,hs,unD],by simp only [dstB,hd];simpa using ht',?_⟩
 simp only [St.put,hd]
 exact k
end
theorem qs0 {E:Env}{n:Nat}{pins:List Nat}{γ:Type 1}{M:Md E n pins γ}{r:Option Nat}{c:Code}{Q:Exit→γ→St→Prop}{g:γ}{l l':List (Nat×D)}{h:List (Option Bk)} (e:l=l') (k:DX M r c Q g (mk l' h)):DX M r c Q g (mk l h):=by subst e;exact k

def frzD (h:List (Option Bk)):D→D
 | .ptr l o=>match h[l]? with
  | some (some (.one d))=>if o=0∧ja8 d=true then .ip d else .dead
  | _=>.dead
 | .own _ _ _ _=>.dead
 | .osl _ _ _=>.dead
 | .mp _=>.dead
 | .cons a b=>.cons (frzD h a) (frzD h b)
 | .tup ps=>.tup (frzD h ps)
 | .fn f caps=>.fn f (frzD h caps)
 | d=>d
theorem km3 (h:List (Option Bk)) (d:D):nc (frzD h d)=nc d:=by
 induction d with
 | cons a b ih1 ih2=>simp only [frzD,nc,ih1,ih2]
 | ptr l o=>simp only [frzD];split<;>(try split)<;>rfl
 | _=>rfl
theorem kj5 (h:List (Option Bk)) (d:D):∀i,cell (frzD h d) i=frzD h (cell d i):=by
 induction d with
 | cons a b ih1 ih2 =>
  intro i
  simp only [frzD,cell,km3]
  split
  ·exact ih1 i
  ·exact ih2 _
 | ptr l o=>intro i;simp only [frzD,cell];split<;>(try split)<;>rfl
 | arr=>intro i;rfl
 | nil=>intro i;rfl
 | _=>intro i;rfl
theorem RI.frz {w:World}{S:Nat→Prop}{x:Value}{d:D} (h:List (Option Bk)) (k:RI w S x d):RI w S x (frzD h d):=by
 induction k with
 | fn hn _ ih=>exact .fn (by rw [km3];exact hn) fun i hi=>by rw [kj5];exact ih i hi
 | v h=>exact .v h
 | sl0=>exact .sl0
 | sl sz xs hb hcap hs hx hc _=>exact .sl sz xs hb hcap hs hx hc
 | ip xs hb hx hc _=>exact .ip xs hb hx hc
 | dead h=>exact .dead h
 | pr h k=>exact .pr h k
abbrev FS (C:Cx) (w:World):Nat→Prop:=fun b=>(C.A b∨C.w0.heap.size≤b)∧b<w.heap.size
theorem qv7 {C:Cx}{h:List (Option Bk)}{bs:List (Option Nat)}{w:World} (hS0:∀b,b<C.w0.heap.size→C.S0 b) (hw:WR C h bs w) {i b:Nat} (hi:bs[i]?=some (some b)):FS C w b :=
 ⟨.inr (Nat.le_of_not_lt fun hlt=>(hw.ok i b hi).2 (hS0 b hlt)),(hw.ok i b hi).1⟩
theorem R1.frz {C:Cx}{h:List (Option Bk)}{bs:List (Option Nat)}{w:World} (hS0:∀b,b<C.w0.heap.size→C.S0 b) (hw:WR C h bs w) {x:Value}{d:D} (k:R1 C w bs x d):RI w (FS C w) x (frzD h d):=by
 induction k with
 | im k=>exact (k.mono fun b hb=>⟨⟨hb.1,hb.2.1⟩,rfl⟩).frz h
 | @ptr l o b hb =>
  simp only [frzD]
  split
  ·rename_i d hd
   split
   ·rename_i hp
    obtain ⟨rfl,hp⟩:=hp
    obtain ⟨cs,T,fz,h1,h2,h3,h4⟩:=hw.at hd hb
    refine .ip (fun j=>cs.getD j undef) (qv7 hS0 hw hb) (fun j hj=>?_) (fun j hj=>?_)
    ·have hj':j<cs.size:=by omega
     simp [World.cell?,h1,Array.getD_eq_getD_getElem?,hj']
    ·have hj':j<cs.size:=by omega
     have:=(h4 j hj').pure (jh2 hp j)
     simpa [Array.getD_eq_getD_getElem?,hj'] using this.mono fun b hb=>⟨⟨hb.1,hb.2.1⟩,rfl⟩
   ·exact .dead rfl
  ·exact .dead rfl
 | own=>exact .dead rfl
 | own0=>exact .dead rfl
 | osl0=>exact .dead rfl
 | osl=>exact .dead rfl
 | mp=>exact .dead rfl
 | fn hn _ ih=>exact .fn (by rw [km3];exact hn) fun i hi=>by rw [kj5];exact ih i hi
def Fin1 (h:List (Option Bk)) (r d:D):Prop:=∀(C:Cx) (w:World) (bs:List (Option Nat)) (x:Value),(∀b,b<C.w0.heap.size→C.S0 b)→WR C h bs w→R1 C w bs x r→RI w (FS C w) x d
theorem qi3 {h:List (Option Bk)}{r d:D} (e:frzD h r=d):Fin1 h r d:=fun _ _ _ _ hS0 hw hx=>by subst e;exact hx.frz hS0 hw
theorem qs5 {h:List (Option Bk)}{r d:D} (hr:scB r=true) (hd:scB d=true) (k:Fin1 h r d):Fin h r d:=fun C w bs x hS0 hw hx=>(jq6 hd).2 (k C w bs x hS0 hw ((jq6 hr).1 hx))
theorem kc2 {h:List (Option Bk)}{r d:D} (hr:scB r=true) (hd:scB d=true) (e:frzD h r=d):Fin h r d:=qs5 hr hd (qi3 e)
inductive FinT (h:List (Option Bk)):D→D→Prop
 | nil:FinT h .nil .nil
 | cons {r d rs ds} (hr:jr1 r=true) (hd:jr1 d=true) (k:Fin h r d) (t:FinT h rs ds):FinT h (.cons r rs) (.cons d ds)
theorem jb1 {h:List (Option Bk)}{rs ds:D} (k:FinT h rs ds):Fin h (.tup rs) (.tup ds):=fun C w bs x hS0 hw hx=>by
 obtain ⟨vs,h1,h2⟩:=hx
 refine ⟨vs,h1,?_⟩
 clear h1
 generalize vs.toList=l at *
 induction k generalizing l with
 | nil=>cases l with|nil=>trivial|cons a b=>exact h2.elim
 | @cons r d rs ds hr hd k t ih =>
  cases l with
  | nil=>exact h2.elim
  | cons a b =>
   obtain ⟨p1,p2⟩:=h2
   have h3:RV C w bs a r:=by cases r<;>first|exact p1|(cases hr;done)
   exact ⟨jj7 hd (k C w bs a hS0 hw h3),ih b p2⟩

theorem WR.refz {C:Cx}{h:List (Option Bk)}{bs:List (Option Nat)}{w w':World} (hw:WR C h bs w) {l b:Nat} (hb:bs[l]?=some (some b)) {cs:Array Value}{T:TypeId}{fz fz':Nat×Nat} (hg:w.heap[b]?=some (.cells cs T fz)) (hg':w'.heap[b]?=some (.cells cs T fz')) (hu:jo4 fz' cs.size) (h1z:∀L T' sz,h[l]?=some (some (.row L T' sz))→sz=1)
  (ho:w'.os=w.os∧w'.tape=w.tape∧w'.output=w.output∧w'.heap.size=w.heap.size) (hne:∀b',b'≠b→w'.heap[b']?=w.heap[b']?):WR C h bs w'∧Ext C w bs w' bs:=by
 obtain ⟨o1,o2,o3,o4⟩:=ho
 have hsh:∀b',w'.shape? b'=w.shape? b':=fun b'=>by
  by_cases e:b'=b
  ·subst e;unfold World.shape?;rw [hg,hg']
  ·exact jc8 (hne b' e)
 have hE:Ext C w bs w' bs:=⟨fun b' hb'=>⟨⟨hb'.1,by rw [o4];exact hb'.2.1,hb'.2.2⟩,hne b' fun e=>hb'.2.2 l (by rw [e];exact hb)⟩,fun i b' hi=>⟨hi,hsh b'⟩⟩
 refine ⟨⟨hw.len,hw.inj,fun i b' hi=>⟨by rw [o4];exact (hw.ok i b' hi).1,(hw.ok i b' hi).2⟩,fun i k hk=>?_,?_,hw.gl,hw.g0,hw.tok,hw.mix,hw.s0,fun i b' hi=>⟨(hw.fix i b' hi).1,(hsh b').trans (hw.fix i b' hi).2⟩⟩,hE⟩
 ·rcases hw.blk i k hk with ⟨b',hb',hB⟩|h0
  ·refine .inl ⟨b',hb',?_⟩
   by_cases e:b'=b
   ·subst e
    cases k with
    | one d =>
     obtain ⟨cs',T',fz0,h1,h2,h3,h4⟩:=hB
     rw [hg] at h1
     cases h1
     exact ⟨cs,T,fz',hg',h2,hu,fun i hi=>(h4 i hi).ext hE⟩
    | row L T' sz =>
     obtain ⟨cs',fz0,h1,h2,h3,h4,h5⟩:=hB
     rw [hg] at h1
     cases h1
     have e1:=hw.inj i l _ hb' hb
     subst e1
     exact ⟨cs,fz',hg',h2,⟨hu,fun hne=>absurd (h1z _ _ _ hk) hne⟩,h4,fun i j hi hj=>let ⟨x,hx,hr⟩:=h5 i j hi hj;⟨x,hx,hr.mono hE.im⟩⟩
    | mp es clk =>
     obtain ⟨es',h1,_⟩:=hB
     rw [hg] at h1
     cases h1
    | it =>
     obtain ⟨m,h1,_⟩:=hB
     rw [hg] at h1
     cases h1
    | any=>trivial
   ·exact hB.ext hE (hne b' e)
  ·exact .inr h0
 ·have hf:=hw.fr
  exact ⟨o1.trans hf.os,o2.trans hf.tape,o3.trans hf.output,by rw [o4];exact hf.size,fun b' hb'=>(hne b' fun e=>(hw.ok l b hb).2 (by rw [← e];exact hb')).trans (hf.block b' hb')⟩
theorem kz2 {C:Cx}{o:Oper}{st:St}{t el l n:Nat}{L:List D}{x:Operand} (ho:o.op = .convert t t x) (hd:dstB C o=true) (hT:jq9 C.T t=some el) (hx:evD C st x = .own l n el 1) (hn:0<n) (hl:st.h[l]?=some (some (.row L el 1))):DO C o st (St.put st o.dst (.own l n el 1)):=by
 intro bs a w hr
 have hxv:=je2 hr x
 rw [hx] at hxv
 unfold jq9 at hT
 split at hT
 ·rename_i hT'
  split at hT
  ·rename_i hE'
   simp only [Option.some.injEq] at hT
   rw [hT] at hT' hE'
   obtain ⟨ti,dt,_,hF,_⟩:=jb9 hr.wr.tok hT'
   obtain ⟨ti2,de,_,hF2,_⟩:=jb9 hr.wr.tok hE'
   have hd1:=hF.desc
   have hd2:=hF2.desc
   cases dt<;>simp only [jd2] at hd1<;>try cases hd1
   simp only [beq_iff_eq] at hd1
   subst hd1
   cases de<;>simp only [jd2] at hd2<;>try cases hd2
   have:=of_decide_eq_true hd2
   subst this
   have hxv0:=hxv
   rcases jk1 hxv with ⟨h1,h2⟩|⟨b,cap,h1,h2,h3,h4,h5⟩
   ·omega
   ·obtain ⟨cs,fz,g1,g2,g3,g4,g5⟩:=hr.wr.at hl h2
    have hblt:b<w.heap.size:=(hr.wr.ok l b h2).1
    have hsh:w.shape? b=some (el,cs.size):=by unfold World.shape?;rw [g1]
    have hrun:(execOp a.eval o).run C.P w = .ok (.value (a.eval x)) (w.freeze ⟨b,cs.size,none⟩ 1):=by
     simp [execOp,ho,convert,Sem.run_bind,hF.underlying w,hF2.underlying w,h1,markStringish,hsh]
    rw [hrun]
    obtain ⟨fz',hfz'⟩:∃fz':Nat×Nat,fz'=(if fz.1==fz.2 then (cs.size,cs.size+1) else (min fz.1 cs.size,max fz.2 (cs.size+1))):=⟨_,rfl⟩
    have hg':(w.freeze ⟨b,cs.size,none⟩ 1).heap[b]?=some (.cells cs el fz'):=by
     unfold World.freeze
     rw [if_neg (by decide)]
     have:w.heap[b]?=some (.cells cs el (fz.1,fz.2)):=g1
     simp only [Array.getElem?_modify,if_true,this,Option.map_some,hfz']
    have hu:jo4 fz' cs.size:=by
     rw [hfz']
     rcases g3.1 with e|e
     ·rw [e];right;simp
     ·right
      split
      ·simp
      ·simp;omega
    obtain ⟨w1,w2⟩:=hr.wr.refz h2 g1 hg' hu (fun L' T' sz' hk'=>by rw [hl] at hk';cases hk';rfl) ⟨by unfold World.freeze;rw [if_neg (by decide)],by unfold World.freeze;rw [if_neg (by decide)],by unfold World.freeze;rw [if_neg (by decide)],by unfold World.freeze;rw [if_neg (by decide)];simp⟩ (fun b' hb'=>by
     unfold World.freeze
     rw [if_neg (by decide)]
     simp only [Array.getElem?_modify]
     rw [if_neg (by omega)])
    exact ⟨bs,Rel.put ⟨hr.defers,hr.size,fun t=>RV.ext w2 (hr.slots t),w1⟩ (jd0 hd) (RV.ext w2 hxv0)⟩
  ·cases hT
 ·cases hT
theorem jg1 {C:Cx}{o:Oper}{st:St}{t el len:Nat}{e:TE}{parts:Array (Nat×Operand)}{b1 b2:Nat}{z1:D}{xs:List D} (ho:o.op = .buildSlice t len parts) (hd:dstB C o=true) (hT:C.T t=some ⟨.slice el,b1,b2,z1⟩) (hE:C.T el=some e) (hi:parts.toList.map (·.1)=List.range len)
  (hpos:0<e.sz:=by decide) (hle:len≤1000000:=by decide) (ha0:ja9 C st o=xs:=by exact dsx) (hx:xs.all (fun d=>ja8 d&&(aggB d||scB d)&&nc d==e.sz)=true:=by rfl) (hl:len*e.sz≤16777216:=by decide):DO C o st (St.put ⟨st.s,st.h++[some (.row xs el e.sz)]⟩ o.dst (.own st.h.length len el e.sz)) :=
 qz0 ho hd hT hE hi hpos hle ha0 hx hl
theorem jd5 {C:Cx}{o:Oper}{st:St}{t el l n:Nat}{L:List D}{x:Operand} (ho:o.op = .convert t t x) (hd:dstB C o=true) (hT:jq9 C.T t=some el) (hx:evD C st x = .own l n el 1:=by exact dsx) (hn:0<n:=by omega) (hl:st.h[l]?=some (some (.row L el 1)):=by exact dsx):DO C o st (St.put st o.dst (.own l n el 1)) :=
 kz2 ho hd hT hx hn hl

theorem ka2 {pins:List Nat}:∀{l:List (Nat×D)},l.all (fun p=>ju0 pins p.2)=true→∀t,ju0 pins (look l t)=true
 | [],_,t=>rfl
 | (k,d)::l,h,t=>by
  simp only [List.all_cons,Bool.and_eq_true] at h
  simp only [look]
  split
  ·exact h.1
  ·exact ka2 h.2 t
def vi3 (pins:List Nat) (h:List (Option Bk)):Bool:=pins.all fun l=>match h[l]? with|some (some (.one _))=>true|_=>false
theorem kz9 {E:Env}{n:Nat}{pins:List Nat}{w0:World}{A0:Nat→Prop}{bs0:List (Option Nat)} (pins':List Nat) (live:List Nat) {g:Operand}{ps:List Tmp}{assign body:Code}{gf:FuncId}{caps:D}{items:List (List D)}{Q:Exit→PUnit→St→Prop}{l l':List (Nat×D)}{h:List (Option Bk)}
  (H:List (List D)→List (Option Bk)) (X:Exit→List (Option Bk)→Prop) (hgen:SeqX E gf caps items) (eg:fnB E.P gf=true) (hpp:pins.all pins'.contains=true)
  (hg:∀(w0:World) (A S0:Nat→Prop) (f:Nat→Option Nat),evD (mkG E n w0 A S0 (fxP pins f)) (mk l h) g = .fn gf caps) (hcap:ja8 caps=true)
  (h0:h=H []) (hsl:l'.all (fun p=>ju0 pins' p.2)=true) (hpin:vi3 pins' (H [])=true) (hpn:ps.all (Nat.blt · n)=true) (hlen:∀x ∈ items,x.length=ps.length)
  (hbody:∀(M:Md E n pins' PUnit) (L:Nat) (pre:List (List D)) (x:List D),(pre++[x]) <+: items→DX M (some L) assign (kb3 (fun _ st'=>∀(M2:Md E n pins' PUnit),DX M2 (some L) body (qp1 E n pins' (H (pre++[x])) X) ⟨⟩ st') (fun _ _ _=>False)) ⟨⟩ ⟨asgD (look l') ps x,H pre⟩)
  (hdone:Q .normal ⟨⟩ (mk l' (H items))) (hstop:∀e h',X e h'→Q e ⟨⟩ (mk l' h')) (e:pick (look l) live=l':=by exact dz6) :
  DX (MdFn E n pins w0 A0 bs0) none (.rangeFunc g ps.toArray assign body) Q ⟨⟩ (mk l h):=by
 subst h0
 refine qi0 (s0:=look l) (ps:=ps.toArray) pins' (fun i hi=>?_) (look l') H X hgen (fun args w=>kk0 eg args w) hg hcap (fun t=>by rw [← e];exact jv4 _ _ t) (ka2 hsl) (fun k hk=>?_) (fun p hp=>?_) (fun x hx=>by simpa using hlen x hx) (fun M L pre x hx=>?_) hdone hstop
 ·have:=List.all_eq_true.1 hpp i (by simpa using hi)
  exact this
 ·have:=List.all_eq_true.1 hpin k (by simpa using hk)
  split at this
  ·rename_i d hd;exact ⟨d,hd⟩
  ·cases this
 ·have:=List.all_eq_true.1 hpn p (by simpa using hp)
  simpa using this
 ·simpa using hbody M L pre x hx
theorem qh9 {E:Env}{n:Nat}{pins:List Nat}{γ:Type 1}{M:Md E n pins γ}{r:Option Nat}{Q:Exit→γ→St→Prop}{g:γ}{c:Code}{s:Nat→D}{h:List (Option Bk)} (live:List Nat) {l:List (Nat×D)} (k:DX M r c Q g (mk l h)) (e:pick s live=l:=by simp only [pick,kil,asgD,ja6,implies_true,setD,bslF,je3,jd6,List.zip_cons_cons,List.zip_nil_right,List.zip_nil_left,ja8,rng0,rng1,rng2,rng3,rng4,rng5,rng6,rng7,rng8,List.getD_cons_zero,List.getD_cons_succ,Nat.reduceLeDiff,decide_true,decide_false,List.all_cons,List.all_nil,dqF,nilF,jg0,ja9,Op.operands,Call.operands,evD,cD,gip,upd,look,List.map,List.map_cons,List.map_nil,binF,binI,shI,binS,unF,wD,kLo,kHi,kMod,jf8,jf3,jf5,je5,je4,je7,je6,lenF,lenD,je0,jd9,minF,jd7,cutL,bndF,sub,nc,aggT,aggB,scB,tnth,elems,L_B,L_mk,List.getElem?_cons_zero,List.getElem?_cons_succ,reduceIte,reduceCtorEq,Option.isSome,List.toList_toArray,Nat.reduceAdd,Nat.reduceSub,Nat.reduceMul,Nat.reduceEqDiff,Nat.reduceLT,Nat.reduceBEq,mkF,mkG,Bool.and_true,Bool.true_and,Bool.and_false,Bool.false_and,beq_self_eq_true,mkC,Int.reduceToNat,Int.toNat_natCast,Int.reduceAdd,Int.reduceSub,Int.reduceMul,Nat.zero_add,Nat.add_zero,Nat.mul_one,and_true,true_and,Option.getD_some,Option.getD_none,ne_eq,not_true_eq_false,not_false_eq_true,decide_not,Bool.not_true,Bool.not_false,Int.reduceLT,Int.reduceLE,Int.reduceEq,Int.reduceNe,Int.reduceGT,Int.reduceGE,gt_iff_lt,ge_iff_le,Nat.reduceLT,Nat.reduceLeDiff,u32D,u8D,iD,bD,strD,jb8,jc1,jb4,jb3,jb5,jb7,jb6,jc3,jc2,hX];exact rfl):DX M r c Q g ⟨s,h⟩:=qs1 live e k
theorem kj4 (x:UInt8):jp6 (ja6 x)=x:=by simp [jp6,ja6]
theorem rowB {l:List UInt8}{n:Nat} (h:l.length≤n):((l.map ja6).take n).map jp6=l:=by
 rw [List.take_of_length_le (by simpa using h),List.map_map]
 conv=>rhs;rw [← List.map_id l]
 exact List.map_congr_left fun x _=>kj4 x
def jo6 (T:Nat→Option TE) (s t:Nat):Bool:=match T s,T t with
 | some ⟨.slice el,_,_,_⟩,some ⟨.str,_,_,_⟩=>(match T el with|some ⟨.int .u8,_,_,_⟩=>true|_=>false)
 | _,_=>false
theorem js9 {C:Cx}{o:Oper}{h:List (Option Bk)}{s t l n el sz:Nat}{x:Operand}{L:List UInt8} (ho:o.op = .convert s t x) (hT:jo6 C.T s t=true) (hl:h[l]?=some (some (.row (L.map ja6) el sz))) (hn:n=L.length):DQ C o [.own l n el sz] h (.v (.string (B L))):=by
 have he:jf3 C.T h s t (.own l n el sz)=some ((n≤(L.map ja6).length)∧∀d ∈ (L.map ja6).take n,isU8 d,.v (.string (B (((L.map ja6).take n).map jp6)))):=by
  unfold jo6 at hT
  split at hT
  ·rename_i hs ht
   split at hT
   ·rename_i he
    simp only [jf3,hs,ht,he,elems,hl]
   ·cases hT
  ·cases hT
 have:=kq4 ho he ⟨by simp [hn],fun d hd=>by
  obtain ⟨c,_,rfl⟩:=List.mem_map.1 (List.mem_of_mem_take hd)
  trivial⟩
 rwa [rowB (by omega)] at this
section
variable {C:Cx}{ops:Array Oper}{K:St→Prop}{o o':Oper}{rest:List Oper}{s:Nat→D}{h:List (Option Bk)}
theorem cvx {a b l n el sz:Nat}{x:Operand}{L:List UInt8} (t:Nat) (hg:o.guard=none) (hd:o.dst=some t) (ht':Nat.blt t C.n=true) (ho:o.op = .convert a b x) (hT:jo6 C.T a b=true) (k:DR C ops K rest ⟨upd s t (.v (.string (B L))),h⟩)
  (e:ja9 C ⟨s,h⟩ o=[.own l n el sz]:=by exact dsx) (hl:h[l]?=some (some (.row (L.map ja6) el sz)):=by exact rfl) (hn:n=L.length:=by first|omega|exact lnx):DR C ops K (o::rest) ⟨s,h⟩:=DR_c t hg hd ht' e (js9 ho hT hl hn) k
theorem cvxq {a b l n el sz:Nat}{x:Operand}{L:List UInt8} (t:Nat) (hg:o.guard=none) (hd:o.dst=some t) (ht':Nat.blt t C.n=true) (ho:o.op = .convert a b x) (hT:jo6 C.T a b=true) (k:DRq C ops K rest ⟨upd s t (.v (.string (B L))),h⟩)
  (e:ja9 C ⟨s,h⟩ o=[.own l n el sz]:=by exact dsx) (hl:h[l]?=some (some (.row (L.map ja6) el sz)):=by exact rfl) (hn:n=L.length:=by first|omega|exact lnx):DRq C ops K (o::rest) ⟨s,h⟩:=jw2 t hg hd ht' e (js9 ho hT hl hn) k
end

theorem Weak.one {C:Cx}{l:List (Nat×D)}{h:List (Option Bk)} (p:Nat) {d d':D} (hp:h[p]?=some (some (.one d))) (hn:nc d'=nc d) (hc:∀(i:Nat) (w:World) (bs:List (Option Nat)) (x:Value),i<nc d→R1 C w bs x (cell d i)→R1 C w bs x (cell d' i)):Weak C (mk l h) (mk l (h.set p (some (.one d')))):=fun bs a w hr=>by
 have hw:=hr.wr
 refine ⟨bs,hr.defers,hr.size,hr.slots,⟨by simp [hw.len,mk],hw.inj,hw.ok,fun i kk hk=>?_,hw.fr,hw.gl,hw.g0,hw.tok,hw.mix,hw.s0,hw.fix⟩⟩
 simp only [mk] at hk
 rw [List.getElem?_set] at hk
 split at hk
 ·rename_i e
  subst e
  split at hk
  ·simp at hk
   subst hk
   rcases hw.blk p _ hp with ⟨b,h1,cs,T,fz,e1,e2,e3,e4⟩|⟨T,sz,h1,_⟩
   ·exact .inl ⟨b,h1,cs,T,fz,e1,by rw [hn];exact e2,e3,fun i hi=>hc i w bs _ (by omega) (e4 i hi)⟩
   ·cases h1
  ·cases hk
 ·exact hw.blk i kk hk
theorem Weak.nil_row {C:Cx}{l:List (Nat×D)}{h:List (Option Bk)} (T sz:Nat):Weak C (mk l h) (mk l (h++[some (.row [] T sz)])):=fun bs a w hr=>by
 obtain ⟨w1,w2⟩:=hr.wr.more (ob:=none) (k:=.row [] T sz) (Nat.le_refl _) rfl rfl rfl (fun _ _=>rfl) (by simp) (fun _=>.inr ⟨_,_,rfl,rfl⟩)
 exact ⟨_,hr.defers,hr.size,fun i=>RV.ext w2 (hr.slots i),w1⟩
theorem Weak.nil_ownB {C:Cx}{l:List (Nat×D)}{h:List (Option Bk)} (p T sz:Nat) (hp:h[p]?=some (some (.one (.v (.slice none 0 0))))):Weak C (mk l h) (mk l ((h++[some (Bk.row [] T sz)]).set p (some (.one (.own h.length 0 T sz))))):=by
 refine (Weak.nil_row T sz).trans (Weak.one p (d:=.v (.slice none 0 0)) ?_ rfl fun i w bs x hi hx=>?_)
 ·rw [List.getElem?_append_left (List.getElem?_eq_some_iff.1 hp).1];exact hp
 ·have hx':RV C w bs x (.v (.slice none 0 0)):=hx
  rw [(RV_v hx').1]
  exact R1.own0

theorem vh0 {C:Cx}{w:World}{bs:List (Option Nat)}{x:Value}{p:Value→Prop} (hh:RV C w bs x (.pr p)):p x∧isC x=true:=by
 have h':R1 C w bs x (.pr p):=hh
 cases h' with
 | im h=>cases h with|pr h k=>exact ⟨k,h⟩
def mkIf (T:Nat):D→Option D
 | .v x=>some (.v (.iface T x))
 | .ip _=>some ifD
 | .ptr ..=>some ifD
 | .pr _=>some ifD
 | _=>none
theorem kq5 {C:Cx}{o:Oper}{h:List (Option Bk)}{T:Nat}{x:Operand}{d r:D} (ho:o.op = .makeInterface T x) (hc:C.P.concrete T=true) (hd:mkIf T d=some r):DQ C o [d] h r:=jf1 fun bs w ρ hw hargs=>by
 rw [ho] at hargs
 obtain ⟨a',h1,h2⟩:=All2.one (a:=x) hargs
 cases h1
 refine ⟨.iface T (ρ x),by simp [execOp,ho,Sem.run_bind,run_makeInterface w T (ρ x) hc],?_⟩
 cases d<;>simp only [mkIf,Option.some.injEq,reduceCtorEq] at hd<;>subst hd
 ·rw [(RV_v h2).1];exact R1.im (.v rfl)
 ·exact R1.im (.pr rfl ⟨_,_,rfl⟩)
 ·exact R1.im (.pr rfl ⟨_,_,rfl⟩)
 ·exact R1.im (.pr rfl ⟨_,_,rfl⟩)
def IfN (d:D) (r:Bool):Prop:=(d = .v .nilIface∧r=true)∨((∃t v,d = .v (.iface t v))∧r=false)∨(d=ifD∧r=false)
theorem qh5 {C:Cx}{o:Oper}{h:List (Option Bk)}{op:BinOp}{t u:Nat}{x:Operand}{d:D}{r:Bool} (ho:o.op = .binOp op t x (.const .nilIface) u) (hu:C.P.underlying t=some (.interface (C.P.methodsAt t))) (hop:op = .eql∨op = .neq) (hd:IfN d r):DQ C o [d,.v .nilIface] h (.v (.bool (if op = .eql then r else !r))):=jf1 fun bs w ρ hw hargs=>by
 rw [ho] at hargs
 obtain ⟨a',b',h1,h2,h3⟩:=All2.two (a:=x) (b:=.const .nilIface) hargs
 cases h1
 have e3:=(RV_v h3).1
 have hv:(ρ x = .nilIface∧r=true)∨((∃t v,ρ x = .iface t v)∧r=false):=by
  rcases hd with ⟨rfl,hr⟩|⟨⟨t',v',rfl⟩,hr⟩|⟨rfl,hr⟩
  ·exact .inl ⟨(RV_v h2).1,hr⟩
  ·exact .inr ⟨⟨_,_,(RV_v h2).1⟩,hr⟩
  ·exact .inr ⟨(vh0 h2).1,hr⟩
 refine ⟨_,?_,R1.im (.v rfl)⟩
 rcases hv with ⟨e1,rfl⟩|⟨⟨t',v',e1⟩,rfl⟩<;>rcases hop with rfl|rfl
 ·simp [execOp,ho,e1,e3,Sem.run_bind,run_eql_nil_nil w t hu,eqGuard]
 ·simp [execOp,ho,e1,e3,Sem.run_bind,run_neq_nil_nil w t hu,eqGuard]
 ·simp [execOp,ho,e1,e3,Sem.run_bind,run_eql_held_nil w t _ _ hu,eqGuard]
 ·simp [execOp,ho,e1,e3,Sem.run_bind,run_neq_held_nil w t _ _ hu,eqGuard]
theorem qh4 {C:Cx}{o:Oper}{h:List (Option Bk)}{op:BinOp}{t u tx:Nat}{x y:Operand}{k:IntKind}{a b:Int} (ho:o.op = .binOp op t x y u) (hu:C.P.underlying t=some (.interface (C.P.methodsAt t))) (hop:op = .eql∨op = .neq)
  (hc:(C.P.info? tx).map (·.comparable)=some true) (hx:C.P.underlying tx=some (.int k)):DQ C o [.v (.iface tx (.int k a)),.v (.iface tx (.int k b))] h (.v (.bool (if op = .eql then a==b else !(a==b)))):=jf1 fun bs w ρ hw hargs=>by
 rw [ho] at hargs
 obtain ⟨a',b',h1,h2,h3⟩:=All2.two (a:=x) (b:=y) hargs
 cases h1
 have e2:=(RV_v h2).1
 have e3:=(RV_v h3).1
 refine ⟨_,?_,R1.im (.v rfl)⟩
 rcases hop with rfl|rfl
 ·simp [execOp,ho,e2,e3,Sem.run_bind,Lib.run_eql_iface_int w a b hu hc hx,eqGuard]
 ·simp [execOp,ho,e2,e3,Sem.run_bind,Lib.run_neq_iface_int w a b hu hc hx,eqGuard]

def extB (P:Program) (f:FuncId):Bool:=match P.funcs[f]? with|some fn=>!(fn.name == "runtime.NumGoroutine")&&fn.body.isNone&&(Extern.findNext fn).isNone|none=>false
def extF (P:Program) (f:FuncId):Option (Array Value→Sem Value):=match P.funcs[f]? with|some fn=>Extern.find fn|none=>none
theorem All2.vals {C:Cx}{w:World}{bs:List (Option Nat)}{ρ:Operand→Value}:∀{l:List Operand}{vs:List Value},All2 (fun x d=>RV C w bs (ρ x) d) l (vs.map .v)→l.map ρ=vs
 | [],[],_=>rfl
 | _::_,_::_,h=>by
  cases h with
  | cons h t=>rw [List.map_cons,(RV_v h).1,All2.vals t]
 | [],_::_,h=>by cases h
 | _::_,[],h=>by cases h
theorem qz4 {C:Cx}{o:Oper}{h:List (Option Bk)}{g:Operand}{args:Array Operand}{ts:Array TypeId}{f:FuncId}{e:Array Value→Sem Value}{vs:List Value}{r:Value} (ho:o.op = .call { callee:=.value g,args:=args,argTypes:=ts })
  (hf:extB C.P f=true) (he:extF C.P f=some e) (hr:∀w,(e vs.toArray).run C.P w = .ok r w) (hc:isC r=true):DQ C o (.fn f .nil::vs.map .v) h (.v r):=jf1 fun bs w ρ hw hargs=>by
 rw [ho] at hargs
 have h0:(Op.call { callee:=.value g,args:=args,argTypes:=ts }).operands.toList=g::args.toList:=by simp [Op.operands,Call.operands]
 rw [h0] at hargs
 cases hargs with
 | cons hg ht =>
  obtain ⟨c,hc1,hc2,_⟩:=kx7 hg
  have hc0:c = #[]:=Array.eq_empty_of_size_eq_zero (by rw [hc2];rfl)
  subst hc0
  have e1:args.map ρ=vs.toArray:=by
   apply Array.ext'
   rw [Array.toList_map,All2.vals ht]
  unfold extB at hf
  unfold extF at he
  split at hf
  ·rename_i fn hfn
   rw [hfn] at he
   simp only [Bool.and_eq_true,Bool.not_eq_true',Option.isNone_iff_eq_none] at hf
   have hb:fn.body.isNone=true:=by rw [hf.1.2];rfl
   refine ⟨r,?_,R1.im (.v hc)⟩
   have hrun:=run_callFunc_extern hfn hf.1.1 hb hf.2 he (args.map ρ++#[]) w
   rw [Array.append_empty,e1,hr w] at hrun
   simp only [Result.andThen_ok] at hrun
   simp only [execOp,ho,resolve,Sem.run_bind,hc1]
   simp [Deferred.ofValue,invoke,e1,hrun]
  ·cases hf

theorem WR.forget {C:Cx}{h:List (Option Bk)}{bs:List (Option Nat)}{w w':World} (hw:WR C h bs w) {l b:Nat} (hb:bs[l]?=some (some b)) {cs:Array Value}{T:TypeId}{fz fz':Nat×Nat} (hg:w.heap[b]?=some (.cells cs T fz)) (hg':w'.heap[b]?=some (.cells cs T fz'))
  (ho:w'.os=w.os∧w'.tape=w.tape∧w'.output=w.output∧w'.heap.size=w.heap.size) (hne:∀b',b'≠b→w'.heap[b']?=w.heap[b']?):WR C (h.set l none) bs w'∧Ext C w bs w' bs:=by
 obtain ⟨o1,o2,o3,o4⟩:=ho
 have hsh:∀b',w'.shape? b'=w.shape? b':=fun b'=>by
  by_cases e:b'=b
  ·subst e;unfold World.shape?;rw [hg,hg']
  ·exact jc8 (hne b' e)
 have hE:Ext C w bs w' bs:=⟨fun b' hb'=>⟨⟨hb'.1,by rw [o4];exact hb'.2.1,hb'.2.2⟩,hne b' fun e=>hb'.2.2 l (by rw [e];exact hb)⟩,fun i b' hi=>⟨hi,hsh b'⟩⟩
 refine ⟨⟨by rw [List.length_set];exact hw.len,hw.inj,fun i b' hi=>⟨by rw [o4];exact (hw.ok i b' hi).1,(hw.ok i b' hi).2⟩,fun i k hk=>?_,?_,hw.gl,hw.g0,hw.tok,hw.mix,hw.s0,fun i b' hi=>⟨(hw.fix i b' hi).1,(hsh b').trans (hw.fix i b' hi).2⟩⟩,hE⟩
 ·rw [List.getElem?_set] at hk
  split at hk
  ·split at hk<;>simp at hk
  ·rename_i hil
   rcases hw.blk i k hk with ⟨b',hb',hB⟩|h0
   ·exact .inl ⟨b',hb',hB.ext hE (hne b' fun e=>hil (hw.inj l i b hb (by rw [← e];exact hb')))⟩
   ·exact .inr h0
 ·have hf:=hw.fr
  exact ⟨o1.trans hf.os,o2.trans hf.tape,o3.trans hf.output,by rw [o4];exact hf.size,fun b' hb'=>(hne b' fun e=>(hw.ok l b hb).2 (by rw [← e];exact hb')).trans (hf.block b' hb')⟩
theorem kk1 {w:World}{b n:Nat} (hn:n≠0) {cs:Array Value}{T:TypeId}{fz:Nat×Nat} (hg:w.heap[b]?=some (.cells cs T fz)):(∃fz',(w.freeze ⟨b,0,none⟩ n).heap[b]?=some (.cells cs T fz')) ∧
  ((w.freeze ⟨b,0,none⟩ n).os=w.os∧(w.freeze ⟨b,0,none⟩ n).tape=w.tape∧(w.freeze ⟨b,0,none⟩ n).output=w.output∧(w.freeze ⟨b,0,none⟩ n).heap.size=w.heap.size)∧∀b',b'≠b→(w.freeze ⟨b,0,none⟩ n).heap[b']?=w.heap[b']?:=by
 unfold World.freeze
 rw [if_neg hn]
 refine ⟨?_,⟨rfl,rfl,rfl,by simp⟩,fun b' hb'=>by simp only [Array.getElem?_modify];rw [if_neg (Ne.symm hb')]⟩
 simp only [Array.getElem?_modify,if_true,hg,Option.map_some]
 exact ⟨_,rfl⟩
theorem qr2 {C:Cx}{o:Oper}{st:St}{pt it el l:Nat}{L:List UInt8}{x y:Operand} (ho:o.op = .call { callee:=.builtin .unsafeString,args:=#[x,y],argTypes:=#[pt,it] }) (hd:dstB C o=true) (hp:C.P.underlying pt=some (.pointer el)) (hc:C.P.cellsOf el=1)
  (hx:evD C st x = .ptr l 0) (hy:evD C st y = .v (.int .i64 (L.length:Int))) (hl:st.h[l]?=some (some (.row (L.map ja6) el 1))) (h0:L≠[]) (h63:L.length≤4611686018427387904):DO C o st (St.put ⟨st.s,st.h.set l none⟩ o.dst (.v (.string (B L)))):=by
 intro bs a w hr
 have hxv:=je2 hr x
 rw [hx] at hxv
 have hyv:=je2 hr y
 rw [hy] at hyv
 obtain ⟨b,hx1,hx2⟩:=jk4 hxv
 have hy1:=(RV_v hyv).1
 obtain ⟨cs,fz,g1,g2,g3,g4,g5⟩:=hr.wr.at hl hx2
 rw [List.length_map,Nat.mul_one] at g2
 have hsh:w.shape? b=some (el,cs.size):=by unfold World.shape?;rw [g1]
 have hn0:L.length≠0:=by simpa using h0
 have hu:=Lib.run_unsafeString_row (P:=C.P) w pt it o.type el hp hc b cs.size hsh L h0 g2 (by omega) (fun j y hj=>by
  have hj':j<L.length:=(List.getElem?_eq_some_iff.1 hj).1
  obtain ⟨v,hv,hR⟩:=g5 j 0 (by rw [List.length_map];exact hj') (by decide)
  rw [Nat.mul_one,Nat.add_zero] at hv
  rw [je1,Nat.zero_add]
  unfold World.cell?
  simp only [g1]
  rw [hv]
  simp only [List.getElem_map] at hR
  have e2:L[j]=y:=(List.getElem?_eq_some_iff.1 hj).2
  rw [e2] at hR
  have hR':RI w (Sf C w bs) v (.v (.int .u8 (y.toNat:Int))):=hR
  cases hR' with|v h=>rfl)
 have hrun:(execOp a.eval o).run C.P w = .ok (.value (.string (B L))) (w.freeze ⟨b,0,none⟩ L.length):=by
  simp [execOp,ho,resolve,invoke,builtin,Sem.run_bind,hx1,hy1,hu,B]
 rw [hrun]
 obtain ⟨⟨fz',hg'⟩,hos,hne⟩:=kk1 hn0 g1
 obtain ⟨w1,w2⟩:=hr.wr.forget hx2 g1 hg' hos hne
 exact ⟨bs,Rel.put (st:=⟨st.s,st.h.set l none⟩) ⟨hr.defers,hr.size,fun t=>RV.ext w2 (hr.slots t),w1⟩ (jd0 hd) (R1.im (.v rfl))⟩

theorem qq8 {w:World}{S:Nat→Prop}{sz k:Nat}{zv:Value}{z:D} (hz:zB zv z=true) (hsz:nc z=sz) (h0:0<sz):CR w S sz (madeCells zv.cells (k*sz)).toList (List.replicate k z):=by
 obtain ⟨z1,z2⟩:=jp3 hz
 have hs:zv.cells.size=sz:=z1.trans hsz
 refine ⟨by rw [Array.length_toList,size_madeCells,List.length_replicate],fun d hd=>by rw [List.eq_of_mem_replicate hd];exact hsz,fun i j hi hj=>?_⟩
 rw [List.length_replicate] at hi
 have hlt:i*sz+j<k*sz:=by
  have:(i+1)*sz≤k*sz:=Nat.mul_le_mul_right _ (by omega)
  rw [Nat.add_mul] at this
  omega
 have hj':j<zv.cells.size:=by omega
 have hmod:(i*sz+j) % sz=j:=by rw [Nat.mul_comm,Nat.mul_add_mod,Nat.mod_eq_of_lt hj]
 refine ⟨zv.cells[j],?_,?_⟩
 ·unfold madeCells
  rw [hs]
  simp [hlt,hmod,hj']
 ·rw [List.getElem_replicate,(z2 j hj').1]
  exact .v (z2 j hj').2
theorem qr1 {C:Cx}{o:Oper}{st:St}{t el sz k b1 b2:Nat}{z1:D}{e:TE}{x y:Operand} (ho:o.op = .makeSlice t x y) (hd:dstB C o=true) (hT:C.T t=some ⟨.slice el,b1,b2,z1⟩) (hE:C.T el=some e) (hsz:e.sz=sz) (hs0:0<sz) (hby:0<e.bytes)
  (hx:evD C st x = .v (.int .i64 (k:Int))) (hy:evD C st y = .v (.int .i64 (k:Int))) (hb:k*e.bytes≤140737488355328) :
  DO C o st (St.put ⟨st.s,st.h++[some (.row (List.replicate k e.z) el sz)]⟩ o.dst (.own st.h.length k el sz)):=by
 intro bs a w hr
 have hw:=hr.wr
 obtain ⟨ti,dt,_,hF,_⟩:=jb9 hw.tok hT
 obtain ⟨ti2,de,zv,hF2,hz,hzB⟩:=jb9 hw.tok hE
 have hd1:=hF.desc
 cases dt<;>simp only [jd2] at hd1<;>try cases hd1
 simp only [beq_iff_eq] at hd1
 subst hd1
 have his:ti2.size=sz:=by rw [hF2.size,hsz]
 have hib:ti2.bytes=e.bytes:=hF2.bytes
 have hxv:=je2 hr x
 rw [hx] at hxv
 have hxe:=(RV_v hxv).1
 have hyv:=je2 hr y
 rw [hy] at hyv
 have hye:=(RV_v hyv).1
 have hk:k≤140737488355328:=Nat.le_trans (Nat.le_mul_of_pos_right _ hby) hb
 have hrun0:=run_make (P:=C.P) w t _ ti2 zv hF.und hF2.info hz .i64 .i64 (k:Int) (k:Int) (by omega) (Int.le_refl _) (by rw [hib,← Int.natCast_mul,Nat.mul_comm];omega) (by omega)
 simp only [Int.toNat_natCast] at hrun0
 rw [his] at hrun0
 have hrun:(execOp a.eval o).run C.P w = .ok (.value (.slice (some ⟨w.heap.size,0,none⟩) k k)) (w.alloc (.cells (madeCells zv.cells (k*sz)) el)):=by
  simp [execOp,ho,Sem.run_bind,hxe,hye,hrun0]
 rw [hrun]
 have hzs:nc e.z=sz:=(ko4 hw.tok hE).trans hsz
 obtain ⟨w1,w2⟩:=hw.more (w':=w.alloc (.cells (madeCells zv.cells (k*sz)) el)) (ob:=some w.heap.size) (k:=.row (List.replicate k e.z) el sz) (by simp) rfl rfl rfl (fun b hb'=>Below.heap_alloc _ _ _ hb') (fun b' hb'=>by cases hb';exact ⟨Nat.le_refl _,by simp⟩) (fun hE'=>.inl ⟨_,rfl,by
  refine jn2 (xs:=(madeCells zv.cells (k*sz)).toList) (heap_alloc_new w _) (jn8 _ _) ?_ ((qq8 hzB hzs hs0).mono hE'.im)
  rw [List.length_replicate]
  exact List.take_of_length_le (by rw [Array.length_toList,size_madeCells];exact Nat.le_refl _)⟩)
 refine ⟨_,Rel.put (st:=⟨st.s,st.h++[some (.row (List.replicate k e.z) el sz)]⟩) ⟨hr.defers,hr.size,fun t=>RV.ext w2 (hr.slots t),w1⟩ (jd0 hd) (RVo (R1.own ?_ ?_ (Nat.le_refl _) (by simp only [maxLen];omega)))⟩
 ·rw [← hw.len];simp
 ·have:(w.alloc (.cells (madeCells zv.cells (k*sz)) el)).heap[w.heap.size]?=some (.cells (madeCells zv.cells (k*sz)) el):=heap_alloc_new w _
  unfold World.shape?
  rw [this]
  simp [size_madeCells]
section
variable {C:Cx}{ops:Array Oper}{K:St→Prop}{o:Oper}{rest:List Oper}{s:Nat→D}{h:List (Option Bk)}{T ty u tx el b1 b2 pt it l n:Nat}{x y:Operand}{d r:D}{b b':Bool}{op:BinOp}{kk:IntKind}{p q:Int}{g:Operand}{args:Array Operand}{ts:Array TypeId}{f:FuncId}{vs:List Value}{v:Value}{e':Array Value→Sem Value}{st:St}{e0:TE}{z1:D}
theorem vi1 (t:Nat) (hg:o.guard=none) (hd:o.dst=some t) (ht':Nat.blt t C.n=true) (ho:o.op = .makeInterface T x) (k:DR C ops K rest ⟨upd s t r,h⟩) (hc:C.P.concrete T=true:=by kernel_rfl)
  (e:ja9 C ⟨s,h⟩ o=[d]:=by exact dsx) (hm:mkIf T d=some r:=by exact rfl):DR C ops K (o::rest) ⟨s,h⟩:=DR_c t hg hd ht' e (kq5 ho hc hm) k
theorem vd4 (t:Nat) (hg:o.guard=none) (hd:o.dst=some t) (ht':Nat.blt t C.n=true) (ho:o.op = .makeInterface T x) (k:DRq C ops K rest ⟨upd s t r,h⟩) (hc:C.P.concrete T=true:=by kernel_rfl)
  (e:ja9 C ⟨s,h⟩ o=[d]:=by exact dsx) (hm:mkIf T d=some r:=by exact rfl):DRq C ops K (o::rest) ⟨s,h⟩:=jw2 t hg hd ht' e (kq5 ho hc hm) k
theorem ifnx (t:Nat) (hg:o.guard=none) (hd:o.dst=some t) (ht':Nat.blt t C.n=true) (ho:o.op = .binOp op ty x (.const .nilIface) u) (k:DR C ops K rest ⟨upd s t (.v (.bool b')),h⟩) (hu:C.P.underlying ty=some (.interface (C.P.methodsAt ty)):=by kernel_rfl) (hop:op = .eql∨op = .neq:=by first|exact .inl rfl|exact .inr rfl)
  (e:ja9 C ⟨s,h⟩ o=[d,.v .nilIface]:=by exact dsx) (hn:IfN d b:=by first|exact .inl ⟨rfl,rfl⟩|exact .inr (.inl ⟨⟨_,_,rfl⟩,rfl⟩)|exact .inr (.inr ⟨rfl,rfl⟩)) (er:(if op = .eql then b else !b)=b':=by exact rfl):DR C ops K (o::rest) ⟨s,h⟩:=by
 subst er
 exact DR_c t hg hd ht' e (qh5 ho hu hop hn) k
theorem ifix (t:Nat) (hg:o.guard=none) (hd:o.dst=some t) (ht':Nat.blt t C.n=true) (ho:o.op = .binOp op ty x y u) (k:DR C ops K rest ⟨upd s t (.v (.bool b')),h⟩)
  (e:ja9 C ⟨s,h⟩ o=[.v (.iface tx (.int kk p)),.v (.iface tx (.int kk q))]:=by exact dsx) (hu:C.P.underlying ty=some (.interface (C.P.methodsAt ty)):=by kernel_rfl) (hop:op = .eql∨op = .neq:=by first|exact .inl rfl|exact .inr rfl) (hc:(C.P.info? tx).map (·.comparable)=some true:=by kernel_rfl) (hx:C.P.underlying tx=some (.int kk):=by kernel_rfl)
  (er:(if op = .eql then p==q else !(p==q))=b':=by exact rfl):DR C ops K (o::rest) ⟨s,h⟩:=by
 subst er
 exact DR_c t hg hd ht' e (qh4 ho hu hop hc hx) k
theorem extx (hr:∀w,(e' vs.toArray).run C.P w = .ok v w) (t:Nat) (hg:o.guard=none) (hd:o.dst=some t) (ht':Nat.blt t C.n=true) (ho:o.op = .call { callee:=.value g,args:=args,argTypes:=ts }) (hc:isC v=true) (k:DR C ops K rest ⟨upd s t (.v v),h⟩)
  (e:ja9 C ⟨s,h⟩ o = .fn f .nil::vs.map .v:=by exact dsx) (hf:extB C.P f=true:=by kernel_rfl) (he:extF C.P f=some e':=by kernel_rfl):DR C ops K (o::rest) ⟨s,h⟩:=DR_c t hg hd ht' e (qz4 ho hf he hr hc) k
theorem js2 {L:List UInt8} (ho:o.op = .call { callee:=.builtin .unsafeString,args:=#[x,y],argTypes:=#[pt,it] }) (hd:dstB C o=true) (h0:L≠[]) (h63:L.length≤4611686018427387904) (hp:C.P.underlying pt=some (.pointer el):=by kernel_rfl) (hc:C.P.cellsOf el=1:=by kernel_rfl)
  (hx:evD C st x = .ptr l 0:=by exact dsy) (hy:evD C st y = .v (.int .i64 (L.length:Int)):=by exact dsy) (hl:st.h[l]?=some (some (.row (L.map ja6) el 1)):=by exact rfl):DO C o st (St.put ⟨st.s,st.h.set l none⟩ o.dst (.v (.string (B L)))):=qr2 ho hd hp hc hx hy hl h0 h63
theorem jh4 (n:Nat) (ho:o.op = .makeSlice T x y) (hd:dstB C o=true) (hT:C.T T=some ⟨.slice el,b1,b2,z1⟩) (hE:C.T el=some e0) (hb:n*e0.bytes≤140737488355328)
  (hx:evD C st x = .v (.int .i64 (n:Int)):=by exact dsy) (hy:evD C st y = .v (.int .i64 (n:Int)):=by exact dsy) (hs0:0<e0.sz:=by decide) (hby:0<e0.bytes:=by decide):DO C o st (St.put ⟨st.s,st.h++[some (.row (List.replicate n e0.z) el e0.sz)]⟩ o.dst (.own st.h.length n el e0.sz)):=qr1 ho hd hT hE rfl hs0 hby hx hy hb
end
theorem hcs:(∀(p:Prop) [Decidable p],(decide p=true)=p)∧(∀(p:Prop) [Decidable p],(decide p=false) = ¬p)∧(∀b:Bool,((!b)=true)=(b=false))∧(∀b:Bool,((!b)=false)=(b=true))∧(∀a b:Int,(¬a<b)=(b≤a))∧(∀a b:Int,(¬a≤b)=(b<a))∧(∀a b:Int,(a ≥ b)=(b≤a))∧(∀a b:Int,(a>b)=(b<a))∧(∀p:Prop,(¬¬p)=p)∧((!true)=false)∧((!false)=true)∧(∀m n:Nat,((m:Int)=(n:Int))=(m=n))∧(∀m n:Nat,((m:Int)≤(n:Int))=(m≤n))∧(∀m n:Nat,((m:Int)<(n:Int))=(m<n)) :=
 ⟨fun p _=>by simp,fun p _=>by simp,fun b=>by simp,fun b=>by simp,fun a b=>by simp,fun a b=>by simp,fun _ _=>rfl,fun _ _=>rfl,fun p=>propext Classical.not_not,rfl,rfl,fun m n=>propext Int.natCast_inj,fun m n=>propext Int.ofNat_le,fun m n=>propext Int.ofNat_lt⟩
section
variable {C:Cx}{ops:Array Oper}{K:St→Prop}{o:Oper}{rest:List Oper}{st st':St}
theorem exb {st''} (hg:o.guard=none) (hD:DO C o st st') (k:DR C ops K rest st'') (e:st'=st'':=by simp only [St.put,kilH,kilB,kil,List.set,List.length,List.nil_append,List.cons_append,List.append_nil,Option.map,ja6,implies_true,setD,bslF,je3,jd6,List.zip_cons_cons,List.zip_nil_right,List.zip_nil_left,ja8,rng0,rng1,rng2,rng3,rng4,rng5,rng6,rng7,rng8,List.getD_cons_zero,List.getD_cons_succ,Nat.reduceLeDiff,decide_true,decide_false,List.all_cons,List.all_nil,dqF,nilF,jg0,ja9,Op.operands,Call.operands,evD,cD,gip,upd,look,List.map,List.map_cons,List.map_nil,binF,binI,shI,binS,unF,wD,kLo,kHi,kMod,jf8,jf3,jf5,je5,je4,je7,je6,lenF,lenD,je0,jd9,minF,jd7,cutL,bndF,sub,nc,aggT,aggB,scB,tnth,elems,L_B,L_mk,List.getElem?_cons_zero,List.getElem?_cons_succ,reduceIte,reduceCtorEq,Option.isSome,List.toList_toArray,Nat.reduceAdd,Nat.reduceSub,Nat.reduceMul,Nat.reduceEqDiff,Nat.reduceLT,Nat.reduceBEq,mkF,mkG,Bool.and_true,Bool.true_and,Bool.and_false,Bool.false_and,beq_self_eq_true,mkC,Int.reduceToNat,Int.toNat_natCast,Int.reduceAdd,Int.reduceSub,Int.reduceMul,Nat.zero_add,Nat.add_zero,Nat.mul_one,and_true,true_and,Option.getD_some,Option.getD_none,ne_eq,not_true_eq_false,not_false_eq_true,decide_not,Bool.not_true,Bool.not_false,Int.reduceLT,Int.reduceLE,Int.reduceEq,Int.reduceNe,Int.reduceGT,Int.reduceGE,gt_iff_lt,ge_iff_le,Nat.reduceLT,Nat.reduceLeDiff,u32D,u8D,iD,bD,strD,jb8,jc1,jb4,jb3,jb5,jb7,jb6,jc3,jc2,hX];exact rfl):DR C ops K (o::rest) st:=DR_e hg hD e k
theorem sx (k:DR C ops K rest st') (hs:∀K rest,DR C ops K rest st'→DR C ops K (o::rest) st:=by intro _ _ k';first|exact cvx _ rfl rfl rfl rfl rfl k'|exact qx _ rfl rfl rfl k'|exact ex rfl (ki1 rfl rfl rfl) k'|exact exb rfl (qr0 rfl rfl) k'|exact ex rfl (kf1 rfl rfl) k'|exact ex rfl (kx3 rfl rfl ⟨⟨_,_,_,rfl⟩,rfl,⟨_,rfl,rfl⟩,rfl,by decide⟩ rfl) k'|exact ex rfl (jl0 rfl rfl ⟨⟨_,_,_,rfl⟩,rfl,⟨_,rfl,rfl⟩,rfl,by decide⟩) k'|exact ex rfl (ki4 rfl rfl rfl rfl) k'|exact qr7 _ rfl rfl rfl rfl k'|exact ex rfl (jd5 rfl rfl rfl) k'|exact vi1 _ rfl rfl rfl rfl k'|exact ifnx _ rfl rfl rfl rfl k'|exact ifix _ rfl rfl rfl rfl k'):DR C ops K (o::rest) st:=hs _ _ k
theorem sxq (k:DRq C ops K rest st') (hs:∀K rest,DRq C ops K rest st'→DRq C ops K (o::rest) st:=by intro _ _ k';first|exact cvxq _ rfl rfl rfl rfl rfl k'|exact qxq _ rfl rfl rfl k'|exact qh8 _ rfl rfl rfl rfl k'|exact vd4 _ rfl rfl rfl rfl k'):DRq C ops K (o::rest) st:=hs _ _ k
theorem gx (k:DR C ops K rest st') (hs:∀K,DR C ops K rest st'→DR C ops K (o::rest) st:=by intro _ k';first|exact skx rfl rfl rfl rfl k'|exact qz7 rfl rfl rfl rfl k'):DR C ops K (o::rest) st:=hs _ k
end
theorem KL.mono {live:List Nat}{K K':St→Prop} (h:∀st,K st→K' st) {st:St} (k:KL live K st):KL live K' st:=fun l e=>h _ (k l e)
section
variable {E:Env}{n:Nat}{pins:List Nat}{γ:Type 1}{M:Md E n pins γ}{r:Option Nat}{Q:Exit→γ→St→Prop}{g:γ}{id:Nat}{ops:List Oper}{l l':List (Nat×D)}{h h':List (Option Bk)}{cc:Code}{Q':Exit→γ→St→Prop}
theorem rgx (live:List Nat) (k:Q' .normal g (mk l' h')) (hp:pe M r 20 cc Q=(.region id ops.toArray false,Q'):=by rfl) (hd:∀(w0:World) (A S0:Nat→Prop) (f:Nat→Option Nat),DR (mkG E n w0 A S0 (fxP pins f)) ops.toArray (KL live (fun st=>st=mk l' h')) ops ⟨look l,h⟩:=by intro w0 A S0 f0;(repeat ((with_reducible show DR _ _ _ (_::_) _);first|(refine cx _ (envG _ _ _ _ _ _) rfl rfl rfl rfl rfl ?_ (hc:=by first|exact hK.1|exact hK.2.1|exact hK.2.2.1|exact hK.2.2.2.1|exact hK.2.2.2.2.1|exact hK.2.2.2.2.2.1|exact hK.2.2.2.2.2.2.1|exact hK.2.2.2.2.2.2.2.1))|(refine sx ?_)));refine ja0 ?_;refine kl1 ?_;first|exact rfl|(exact dz7)):DX M r cc Q g (mk l h) :=
 jm7 hp (qa0 live fun w0 A S0 f=>jo5 (fun _ h=>h.mono fun _ e=>e ▸ k) (hd w0 A S0 f))
theorem rggx (live:List Nat) (k:Q' .normal g (mk l' h')) (hp:pe M r 20 cc Q=(.region id ops.toArray false,Q'):=by rfl) (hd:∀(w0:World) (A S0:Nat→Prop) (f:Nat→Option Nat),DR (mkG E n w0 A S0 (fxP pins f)) ops.toArray (KL live (fun st=>st=mk l' h')) ops ⟨look l,h⟩:=by intro w0 A S0 f0;(repeat ((with_reducible show DR _ _ _ (_::_) _);first|(refine gtx rfl rfl ?_)|(refine gx ?_)|(refine cx _ (envG _ _ _ _ _ _) rfl rfl rfl rfl rfl ?_ (hc:=by first|exact hK.1|exact hK.2.1|exact hK.2.2.1|exact hK.2.2.2.1|exact hK.2.2.2.2.1|exact hK.2.2.2.2.2.1|exact hK.2.2.2.2.2.2.1|exact hK.2.2.2.2.2.2.2.1))|(refine sx ?_)));refine ja0 ?_;refine kl1 ?_;first|exact rfl|(exact dz7)):DX M r cc Q g (mk l h):=rgx live k hp hd
theorem rqx (live:List Nat) (k:Q' .normal g (mk l' h')) (hp:pe M r 20 cc Q=(.region id ops.toArray true,Q'):=by rfl) (hB:Region.lexB .any ops.toArray=true:=by kernel_rfl) (hd:∀(w0:World) (A S0:Nat→Prop) (f:Nat→Option Nat),DRq (mkG E n w0 A S0 (fxP pins f)) ops.toArray (KL live (fun st=>st=mk l' h')) ops ⟨look l,h⟩:=by intro w0 A S0 f0;(repeat ((with_reducible show DRq _ _ _ (_::_) _);first|(refine cxq _ (envG _ _ _ _ _ _) rfl rfl rfl rfl rfl ?_ (hc:=by first|exact hK.1|exact hK.2.1|exact hK.2.2.1|exact hK.2.2.2.1|exact hK.2.2.2.2.1|exact hK.2.2.2.2.2.1|exact hK.2.2.2.2.2.2.1|exact hK.2.2.2.2.2.2.2.1))|(refine sxq ?_)));refine jk2 ?_;refine kl1 ?_;first|exact rfl|(exact dz7)):DX M r cc Q g (mk l h) :=
 jm7 hp (jm0 live hB fun w0 A S0 f=>jp4 (fun _ h=>h.mono fun _ e=>e ▸ k) (hd w0 A S0 f))
theorem rtx (m:Nat) (live:List Nat) (k:Q' .normal g (mk l' h')) (hp:pe M r 20 cc Q=(.region id ops.toArray true,Q'):=by rfl) (hB:Region.lexTailB .any ops.toArray m=true:=by kernel_rfl) (hd:∀(w0:World) (A S0:Nat→Prop) (f:Nat→Option Nat),DRq (mkG E n w0 A S0 (fxP pins f)) ops.toArray (fun st'=>DR (mkG E n w0 A S0 (fxP pins f)) ops.toArray (KL live (fun st=>st=mk l' h')) (ops.drop m) st') (ops.take m) ⟨look l,h⟩:=by intro w0 A S0 f0;simp only [List.take,List.drop];(repeat ((with_reducible show DRq _ _ _ (_::_) _);first|(refine cxq _ (envG _ _ _ _ _ _) rfl rfl rfl rfl rfl ?_ (hc:=by first|exact hK.1|exact hK.2.1|exact hK.2.2.1|exact hK.2.2.2.1|exact hK.2.2.2.2.1|exact hK.2.2.2.2.2.1|exact hK.2.2.2.2.2.2.1|exact hK.2.2.2.2.2.2.2.1))|(refine sxq ?_)));refine jk2 ?_;(repeat ((with_reducible show DR _ _ _ (_::_) _);first|(refine cx _ (envG _ _ _ _ _ _) rfl rfl rfl rfl rfl ?_ (hc:=by first|exact hK.1|exact hK.2.1|exact hK.2.2.1|exact hK.2.2.2.1|exact hK.2.2.2.2.1|exact hK.2.2.2.2.2.1|exact hK.2.2.2.2.2.2.1|exact hK.2.2.2.2.2.2.2.1))|(refine sx ?_)));refine ja0 ?_;refine kl1 ?_;first|exact rfl|(exact dz7)):DX M r cc Q g (mk l h) :=
 jm7 hp (kz8 live m hB fun w0 A S0 f=>jp4 (fun _ h=>jo5 (fun _ h=>h.mono fun _ e=>e ▸ k) h) (hd w0 A S0 f))
variable {c:Operand}{x y:Code}{b:Bool}{st:St}
theorem ifx (ht:b=true→DX M r x Q' g st) (hf:b=false→DX M r y Q' g st) (hp:pe M r 20 cc Q=(.cond c x y,Q'):=by rfl) (hc:∀(w0:World) (A S0:Nat→Prop) (f:Nat→Option Nat),evD (mkG E n w0 A S0 (fxP pins f)) st c = .v (.bool b):=by intro _ _ _ _;simp only [evD,mk,look,reduceIte,Nat.reduceEqDiff];exact rfl):DX M r cc Q g st:=jm7 hp (kb8 hc ht hf)
theorem iftx (ht:DX M r x Q' g st) (hp:pe M r 20 cc Q=(.cond c x y,Q'):=by rfl) (hc:∀(w0:World) (A S0:Nat→Prop) (f:Nat→Option Nat),evD (mkG E n w0 A S0 (fxP pins f)) st c = .v (.bool b):=by intro _ _ _ _;simp only [evD,mk,look,reduceIte,Nat.reduceEqDiff];exact rfl) (hf:b=false→False:=by intro hc;first|(cases hc;done)|(simp [hX] at hc;done)|(simp only [decide_eq_true_eq,decide_eq_false_iff_not,Bool.not_eq_true',Bool.not_eq_false',Int.not_lt,Int.not_le,ge_iff_le,gt_iff_lt,Classical.not_not,ne_eq,Bool.not_true,Bool.not_false,Int.natCast_inj,Int.ofNat_le,Int.ofNat_lt] at hc;first|omega|contradiction)|exact absurd (by assumption) (@of_decide_eq_false _ _ hc)):DX M r cc Q g st:=jm7 hp (kb8 hc (fun _=>ht) fun h=>(hf h).elim)
theorem iffx (hf:DX M r y Q' g st) (hp:pe M r 20 cc Q=(.cond c x y,Q'):=by rfl) (hc:∀(w0:World) (A S0:Nat→Prop) (f:Nat→Option Nat),evD (mkG E n w0 A S0 (fxP pins f)) st c = .v (.bool b):=by intro _ _ _ _;simp only [evD,mk,look,reduceIte,Nat.reduceEqDiff];exact rfl) (ht:b=true→False:=by intro hc;first|(cases hc;done)|(simp [hX] at hc;done)|(simp only [decide_eq_true_eq,decide_eq_false_iff_not,Bool.not_eq_true',Bool.not_eq_false',Int.not_lt,Int.not_le,ge_iff_le,gt_iff_lt,Classical.not_not,ne_eq,Bool.not_true,Bool.not_false,Int.natCast_inj,Int.ofNat_le,Int.ofNat_lt] at hc;first|omega|contradiction)|exact absurd (@of_decide_eq_true _ _ hc) (by assumption)):DX M r cc Q g st:=jm7 hp (kb8 hc (fun h=>(ht h).elim) fun _=>hf)
theorem ifts (ht:Q' .normal g st) (hp:pe M r 20 cc Q=(.cond c .skip y,Q'):=by rfl) (hc:∀(w0:World) (A S0:Nat→Prop) (f:Nat→Option Nat),evD (mkG E n w0 A S0 (fxP pins f)) st c = .v (.bool b):=by intro _ _ _ _;simp only [evD,mk,look,reduceIte,Nat.reduceEqDiff];exact rfl) (hf:b=false→False:=by intro hc;first|(cases hc;done)|(simp [hX] at hc;done)|(simp only [decide_eq_true_eq,decide_eq_false_iff_not,Bool.not_eq_true',Bool.not_eq_false',Int.not_lt,Int.not_le,ge_iff_le,gt_iff_lt,Classical.not_not,ne_eq,Bool.not_true,Bool.not_false,Int.natCast_inj,Int.ofNat_le,Int.ofNat_lt] at hc;first|omega|contradiction)|exact absurd (by assumption) (@of_decide_eq_false _ _ hc)):DX M r cc Q g st:=iftx (kb9 ht) hp hc hf
theorem iffs (hf:Q' .normal g st) (hp:pe M r 20 cc Q=(.cond c x .skip,Q'):=by rfl) (hc:∀(w0:World) (A S0:Nat→Prop) (f:Nat→Option Nat),evD (mkG E n w0 A S0 (fxP pins f)) st c = .v (.bool b):=by intro _ _ _ _;simp only [evD,mk,look,reduceIte,Nat.reduceEqDiff];exact rfl) (ht:b=true→False:=by intro hc;first|(cases hc;done)|(simp [hX] at hc;done)|(simp only [decide_eq_true_eq,decide_eq_false_iff_not,Bool.not_eq_true',Bool.not_eq_false',Int.not_lt,Int.not_le,ge_iff_le,gt_iff_lt,Classical.not_not,ne_eq,Bool.not_true,Bool.not_false,Int.natCast_inj,Int.ofNat_le,Int.ofNat_lt] at hc;first|omega|contradiction)|exact absurd (@of_decide_eq_true _ _ hc) (by assumption)):DX M r cc Q g st:=iffx (kb9 hf) hp hc ht
theorem retx {rs:List ResultVar}{G:D→Prop}{p:Prop}{d:D} (k:G d) (ho:∀(w0:World) (A S0:Nat→Prop) (f:Nat→Option Nat),outD (mkG E n w0 A S0 (fxP pins f)) st rs=some (p,d):=by intro _ _ _ _;simp only [outD,resD,outV,ja5,List.all,jr1,ja6,implies_true,setD,bslF,je3,jd6,List.zip_cons_cons,List.zip_nil_right,List.zip_nil_left,ja8,rng0,rng1,rng2,rng3,rng4,rng5,rng6,rng7,rng8,List.getD_cons_zero,List.getD_cons_succ,Nat.reduceLeDiff,decide_true,decide_false,List.all_cons,List.all_nil,dqF,nilF,jg0,ja9,Op.operands,Call.operands,evD,cD,gip,upd,look,List.map,List.map_cons,List.map_nil,binF,binI,shI,binS,unF,wD,kLo,kHi,kMod,jf8,jf3,jf5,je5,je4,je7,je6,lenF,lenD,je0,jd9,minF,jd7,cutL,bndF,sub,nc,aggT,aggB,scB,tnth,elems,L_B,L_mk,List.getElem?_cons_zero,List.getElem?_cons_succ,reduceIte,reduceCtorEq,Option.isSome,List.toList_toArray,Nat.reduceAdd,Nat.reduceSub,Nat.reduceMul,Nat.reduceEqDiff,Nat.reduceLT,Nat.reduceBEq,mkF,mkG,Bool.and_true,Bool.true_and,Bool.and_false,Bool.false_and,beq_self_eq_true,mkC,Int.reduceToNat,Int.toNat_natCast,Int.reduceAdd,Int.reduceSub,Int.reduceMul,Nat.zero_add,Nat.add_zero,Nat.mul_one,and_true,true_and,Option.getD_some,Option.getD_none,ne_eq,not_true_eq_false,not_false_eq_true,decide_not,Bool.not_true,Bool.not_false,Int.reduceLT,Int.reduceLE,Int.reduceEq,Int.reduceNe,Int.reduceGT,Int.reduceGE,gt_iff_lt,ge_iff_le,Nat.reduceLT,Nat.reduceLeDiff,u32D,u8D,iD,bD,strD,jb8,jc1,jb4,jb3,jb5,jb7,jb6,jc3,jc2,ja4,tyT,gtab,hX];exact rfl) (hp:p:=by (repeat' apply And.intro)<;>first|exact True.intro|rfl) :
  ∃p r,(∀(w0:World) (A S0:Nat→Prop) (f:Nat→Option Nat),outD (mkG E n w0 A S0 (fxP pins f)) st rs=some (p,r))∧p∧G r:=⟨p,d,ho,hp,k⟩
theorem retF {rs:List ResultVar}{p:Prop}{d d1:D}{hh:List (Option Bk)} (hp:pe M r 20 cc Q=(.ret,Q'):=by rfl) (hq:Q' .ret g st=(∃p r,(∀(w0:World) (A S0:Nat→Prop) (f:Nat→Option Nat),outD (mkG E n w0 A S0 (fxP pins f)) st rs=some (p,r))∧p∧Fin hh r d1):=by rfl) (ho:∀(w0:World) (A S0:Nat→Prop) (f:Nat→Option Nat),outD (mkG E n w0 A S0 (fxP pins f)) st rs=some (p,d):=by intro _ _ _ _;simp only [outD,resD,outV,ja5,List.all,jr1,ja6,implies_true,setD,bslF,je3,jd6,List.zip_cons_cons,List.zip_nil_right,List.zip_nil_left,ja8,rng0,rng1,rng2,rng3,rng4,rng5,rng6,rng7,rng8,List.getD_cons_zero,List.getD_cons_succ,Nat.reduceLeDiff,decide_true,decide_false,List.all_cons,List.all_nil,dqF,nilF,jg0,ja9,Op.operands,Call.operands,evD,cD,gip,upd,look,List.map,List.map_cons,List.map_nil,binF,binI,shI,binS,unF,wD,kLo,kHi,kMod,jf8,jf3,jf5,je5,je4,je7,je6,lenF,lenD,je0,jd9,minF,jd7,cutL,bndF,sub,nc,aggT,aggB,scB,tnth,elems,L_B,L_mk,List.getElem?_cons_zero,List.getElem?_cons_succ,reduceIte,reduceCtorEq,Option.isSome,List.toList_toArray,Nat.reduceAdd,Nat.reduceSub,Nat.reduceMul,Nat.reduceEqDiff,Nat.reduceLT,Nat.reduceBEq,mkF,mkG,Bool.and_true,Bool.true_and,Bool.and_false,Bool.false_and,beq_self_eq_true,mkC,Int.reduceToNat,Int.toNat_natCast,Int.reduceAdd,Int.reduceSub,Int.reduceMul,Nat.zero_add,Nat.add_zero,Nat.mul_one,and_true,true_and,Option.getD_some,Option.getD_none,ne_eq,not_true_eq_false,not_false_eq_true,decide_not,Bool.not_true,Bool.not_false,Int.reduceLT,Int.reduceLE,Int.reduceEq,Int.reduceNe,Int.reduceGT,Int.reduceGE,gt_iff_lt,ge_iff_le,Nat.reduceLT,Nat.reduceLeDiff,u32D,u8D,iD,bD,strD,jb8,jc1,jb4,jb3,jb5,jb7,jb6,jc3,jc2,ja4,tyT,gtab,hX];exact rfl) (hpp:p:=by (repeat' apply And.intro)<;>first|exact True.intro|rfl) (hF:Fin hh d d1:=by (try dsimp only [outV,ja5]);exact ja3 rfl):DX M r cc Q g st :=
 jm7 hp (jp5 (by rw [hq];exact ⟨p,d,ho,hpp,hF⟩))
end
theorem pcx {E:Env}{f:FuncId}{fn:Func}{c:Code}{n:Nat}{rs:List ResultVar}{args:List D}{l:List (Nat×D)}{d:D} (hf:E.P.funcs[f]?=some fn) (hb:fn.body=some c) (hN:fn.ntmps=n) (hR:fn.results=rs.toArray) (hn:Nat.ble args.length n=true)
  (hbody:∀(w0:World) (A:Nat→Prop),DX (MdFn E n [] w0 A []) none c (jt7 E n [] rs (fun h r=>Fin h r d)) ⟨⟩ (mk l [])) (hl:jc9 0 args=l:=by simp only [jc9,Nat.reduceAdd,u32D,u8D,iD,bD,strD,jb8,jc1,jb4,jb3,jb5,jb7,jb6,jc3,jc2];exact rfl):PC E f args d:=va1 hf hb hN hR hn hl hbody
def shD:D→D
 | .ptr (l+1) o=>.ptr l o
 | .ptr 0 _=>.dead
 | .own (l+1) n T sz=>.own l n T sz
 | .own 0 _ _ _=>.dead
 | .osl (l+1) o n=>.osl l o n
 | .osl 0 _ _=>.dead
 | .mp (l+1)=>.mp l
 | .mp 0=>.dead
 | .cons a b=>.cons (shD a) (shD b)
 | .tup ps=>.tup (shD ps)
 | .fn f caps=>.fn f (shD caps)
 | d=>d
theorem ka3 (d:D):nc (shD d)=nc d:=by
 induction d with
 | cons a b ih1 ih2=>simp only [shD,nc,ih1,ih2]
 | ptr l o=>cases l<;>rfl
 | own l=>cases l<;>rfl
 | osl l=>cases l<;>rfl
 | mp l=>cases l<;>rfl
 | _=>rfl
theorem jw6 (d:D):∀i,cell (shD d) i=shD (cell d i):=by
 induction d with
 | cons a b ih1 ih2 =>
  intro i
  simp only [shD,cell,ka3]
  split
  ·exact ih1 i
  ·exact ih2 _
 | ptr l o=>intro i;cases l<;>rfl
 | own l=>intro i;cases l<;>rfl
 | osl l=>intro i;cases l<;>rfl
 | mp l=>intro i;cases l<;>rfl
 | _=>intro i;rfl
theorem RI.sh {w:World}{S:Nat→Prop}{x:Value}{d:D} (k:RI w S x d):RI w S x (shD d):=by
 induction k with
 | fn hn _ ih=>exact .fn (by rw [ka3];exact hn) fun i hi=>by rw [jw6];exact ih i hi
 | v h=>exact .v h
 | sl0=>exact .sl0
 | sl sz xs hb hcap hs hx hc _=>exact .sl sz xs hb hcap hs hx hc
 | ip xs hb hx hc _=>exact .ip xs hb hx hc
 | dead h=>exact .dead h
 | pr h k=>exact .pr h k
theorem Sf.sh {C:Cx}{w:World}{bs:List (Option Nat)}{b:Nat} (h:Sf C w bs b):Sf C w bs.tail b:=⟨h.1,h.2.1,fun i=>by rw [List.getElem?_tail];exact h.2.2 (i+1)⟩
theorem R1.sh {C:Cx}{w:World}{bs:List (Option Nat)}{x:Value}{d:D} (k:R1 C w bs x d):R1 C w bs.tail x (shD d):=by
 induction k with
 | im k=>exact .im (k.mono fun b hb=>⟨hb.sh,rfl⟩).sh
 | @ptr l o b hb =>
  cases l with
  | zero=>exact .im (.dead rfl)
  | succ l=>exact .ptr (by rw [List.getElem?_tail];exact hb)
 | @own l n T sz b cap hb hs hn hc =>
  cases l with
  | zero=>exact .im (.dead rfl)
  | succ l=>exact .own (by rw [List.getElem?_tail];exact hb) hs hn hc
 | @own0 l T sz =>
  cases l with
  | zero=>exact .im (.dead rfl)
  | succ l=>exact .own0
 | @osl0 l o a cap =>
  cases l with
  | zero=>exact .im (.dead rfl)
  | succ l=>exact .osl0
 | @osl l o n b cap hb hn =>
  cases l with
  | zero=>exact .im (.dead rfl)
  | succ l=>exact .osl (by rw [List.getElem?_tail];exact hb) hn
 | @mp l b hb =>
  cases l with
  | zero=>exact .im (.dead rfl)
  | succ l=>exact .mp (by rw [List.getElem?_tail];exact hb)
 | fn hn _ ih=>exact .fn (by rw [ka3];exact hn) fun i hi=>by rw [jw6];exact ih i hi
theorem RG0.sh {C:Cx}{w:World}{bs:List (Option Nat)}{x:Value}{d:D} (k:RG0 (R1 C w bs) x d):RG0 (R1 C w bs.tail) x (shD d):=by
 cases d with
 | tup ps=>exact k.elim
 | arr kk n f=>obtain ⟨cs,a,b,c⟩:=k;exact ⟨cs,a,b,fun i hi=>(c i hi).sh⟩
 | nil=>exact k
 | cons a b =>
  obtain ⟨cs,h1,h2,h3⟩:=k
  refine ⟨cs,h1,?_,fun i hi=>?_⟩
  ·show cs.size=nc (shD (.cons a b))
   rw [ka3];exact h2
  ·show R1 C w bs.tail cs[i] (cell (shD (.cons a b)) i)
   rw [jw6];exact (h3 i hi).sh
 | dead=>trivial
 | ptr l o =>
  have:=R1.sh (show R1 C w bs x (.ptr l o) from k)
  cases l<;>first|trivial|exact this
 | own l n T sz =>
  have:=R1.sh (show R1 C w bs x (.own l n T sz) from k)
  cases l<;>first|trivial|exact this
 | osl l o n =>
  have:=R1.sh (show R1 C w bs x (.osl l o n) from k)
  cases l<;>first|trivial|exact this
 | mp l =>
  have:=R1.sh (show R1 C w bs x (.mp l) from k)
  cases l<;>first|trivial|exact this
 | v y=>exact R1.sh (show R1 C w bs x (.v y) from k)
 | sl l z e=>exact R1.sh (show R1 C w bs x (.sl l z e) from k)
 | ip d=>exact R1.sh (show R1 C w bs x (.ip d) from k)
 | pr p=>exact R1.sh (show R1 C w bs x (.pr p) from k)
 | fn f c=>exact R1.sh (show R1 C w bs x (.fn f c) from k)
theorem TG.sh {C:Cx}{w:World}{bs:List (Option Nat)}:∀{vs:List Value}{d:D},TG (R1 C w bs) vs d→TG (R1 C w bs.tail) vs (shD d)
 | [],.nil,_=>trivial
 | _::_,.cons _ _,h=>⟨h.1.sh,TG.sh h.2⟩
 | [],.cons _ _,h=>h.elim
 | [],.v _,h=>h.elim
 | [],.arr ..,h=>h.elim
 | [],.tup _,h=>h.elim
 | [],.sl ..,h=>h.elim
 | [],.ip _,h=>h.elim
 | [],.ptr ..,h=>h.elim
 | [],.own ..,h=>h.elim
 | [],.osl ..,h=>h.elim
 | [],.mp _,h=>h.elim
 | [],.fn ..,h=>h.elim
 | [],.dead,h=>h.elim
 | [],.pr _,h=>h.elim
 | _::_,.nil,h=>h.elim
 | _::_,.v _,h=>h.elim
 | _::_,.arr ..,h=>h.elim
 | _::_,.tup _,h=>h.elim
 | _::_,.sl ..,h=>h.elim
 | _::_,.ip _,h=>h.elim
 | _::_,.ptr ..,h=>h.elim
 | _::_,.own ..,h=>h.elim
 | _::_,.osl ..,h=>h.elim
 | _::_,.mp _,h=>h.elim
 | _::_,.fn ..,h=>h.elim
 | _::_,.dead,h=>h.elim
 | _::_,.pr _,h=>h.elim
theorem RV.sh {C:Cx}{w:World}{bs:List (Option Nat)}{x:Value}{d:D} (k:RV C w bs x d):RV C w bs.tail x (shD d):=by
 cases d with
 | tup ps=>obtain ⟨vs,a,b⟩:=k;exact ⟨vs,a,b.sh⟩
 | ptr l o =>
  have:=RG0.sh (jj7 (by rfl) k)
  cases l<;>exact this
 | own l n T sz =>
  have:=RG0.sh (jj7 (by rfl) k)
  cases l<;>exact this
 | osl l o n =>
  have:=RG0.sh (jj7 (by rfl) k)
  cases l<;>exact this
 | mp l =>
  have:=RG0.sh (jj7 (by rfl) k)
  cases l<;>exact this
 | _=>exact RG0.sh (jj7 (by rfl) k)
def shB:Bk→Bk
 | .one d=>.one (shD d)
 | .row L T sz=>.row L T sz
 | .mp es clk=>.mp (es.map fun p=>(p.1,p.2.1,shD p.2.2)) clk
 | .it (l+1) since seen last=>.it l since seen last
 | .it 0 _ _ _=>.any
 | .any=>.any
theorem ku6:∀(l:List (Nat×D)) (t:Nat),look (l.map fun p=>(p.1,shD p.2)) t=shD (look l t)
 | [],_=>rfl
 | (k,d)::l,t=>by
  simp only [List.map_cons,look]
  split
  ·rfl
  ·exact ku6 l t
theorem Weak.shift {C:Cx}{l l':List (Nat×D)}{h h':List (Option Bk)} (hfx:∀i,C.fx i=none) (el:l.map (fun p=>(p.1,shD p.2))=l') (eh:h.tail.map (Option.map shB)=h'):Weak C (mk l h) (mk l' h'):=fun bs a w hr=>by
 subst el eh
 have hw:=hr.wr
 refine ⟨bs.tail,hr.defers,hr.size,fun t=>?_,⟨by simp [hw.len,mk],fun i j b hi hj=>?_,fun i b hi=>?_,fun i kk hk=>?_,hw.fr,hw.gl,hw.g0,hw.tok,hw.mix,hw.s0,fun i b hi=>?_⟩⟩
 ·show RV C w bs.tail _ (look (l.map fun p=>(p.1,shD p.2)) t)
  rw [ku6]
  exact (hr.slots t).sh
 ·rw [List.getElem?_tail] at hi hj
  have:=hw.inj _ _ b hi hj
  omega
 ·rw [List.getElem?_tail] at hi
  exact hw.ok _ b hi
 ·simp only [mk,List.getElem?_map,List.getElem?_tail,Option.map_eq_some_iff] at hk
  obtain ⟨k0,hk0,hk1⟩:=hk
  cases k0 with
  | none=>simp at hk1
  | some k1 =>
   simp only [Option.some.injEq] at hk1
   obtain ⟨_,rfl,rfl⟩:=hk1
   rcases hw.blk _ k1 hk0 with ⟨b,h1,h2⟩|⟨T,sz,h1,h2⟩
   ·refine .inl ⟨b,by rw [List.getElem?_tail];exact h1,?_⟩
    cases k1 with
    | one d =>
     obtain ⟨cs,T,fz,e1,e2,e3,e4⟩:=h2
     exact ⟨cs,T,fz,e1,by rw [ka3];exact e2,e3,fun i hi=>by rw [jw6];exact (e4 i hi).sh⟩
    | row L T sz =>
     obtain ⟨cs,fz,e1,e2,e3,e4,e5⟩:=h2
     exact ⟨cs,fz,e1,e2,e3,e4,fun i j hi hj=>let ⟨x,hx,hr⟩:=e5 i j hi hj;⟨x,hx,hr.mono fun b hb=>⟨hb.sh,rfl⟩⟩⟩
    | mp es clk =>
     obtain ⟨es',e1,e2⟩:=h2
     exact ⟨es',e1,e2.mapR fun _ _ k=>⟨k.1,k.2.1,k.2.2.sh⟩⟩
    | it l since seen last =>
     obtain ⟨m,e1,e2⟩:=h2
     cases l with
     | zero=>trivial
     | succ l=>exact ⟨m,e1,by rw [List.getElem?_tail];exact e2⟩
    | any=>trivial
   ·subst h1
    exact .inr ⟨T,sz,rfl,by rw [List.getElem?_tail];exact h2⟩
 ·rw [hfx i] at hi;cases hi
theorem WeakX.shift {E:Env}{n:Nat}{l l':List (Nat×D)}{h h':List (Option Bk)} (el:l.map (fun p=>(p.1,shD p.2))=l') (eh:h.tail.map (Option.map shB)=h'):WeakX E n [] (mk l h) (mk l' h'):=fun _ _ _ _=>Weak.shift (fun i=>by simp [mkG,fxP]) el eh
theorem WeakX.take {E:Env}{n:Nat}{l:List (Nat×D)}{h h':List (Option Bk)} (k:Nat) (hs:l.all (fun p=>ltB k p.2)=true) (hb:(h.take k).all (ltBk k)=true) (eh:h.take k=h'):WeakX E n [] (mk l h) (mk l h'):=fun _ _ _ _=>eh ▸ Weak.take k (fun i b hi=>by simp [mkG,fxP] at hi) hs hb
def suD (k:Nat):D→D
 | .ptr l o=>.ptr (k+l) o
 | .own l n T sz=>.own (k+l) n T sz
 | .osl l o n=>.osl (k+l) o n
 | .mp l=>.mp (k+l)
 | .cons a b=>.cons (suD k a) (suD k b)
 | .tup ps=>.tup (suD k ps)
 | .fn f caps=>.fn f (suD k caps)
 | d=>d
def suB (k:Nat):Bk→Bk
 | .one d=>.one (suD k d)
 | .row L T sz=>.row L T sz
 | .mp es clk=>.mp (es.map fun p=>(p.1,p.2.1,suD k p.2.2)) clk
 | .it l since seen last=>.it (k+l) since seen last
 | .any=>.any
theorem ka4 (k:Nat) (d:D):nc (suD k d)=nc d:=by
 induction d with
 | cons a b ih1 ih2=>simp only [suD,nc,ih1,ih2]
 | _=>rfl
theorem jw7 (k:Nat) (d:D):∀i,cell (suD k d) i=suD k (cell d i):=by
 induction d with
 | cons a b ih1 ih2 =>
  intro i
  simp only [suD,cell,ka4]
  split
  ·exact ih1 i
  ·exact ih2 _
 | _=>intro i;rfl
theorem RI.su {w:World}{S:Nat→Prop} (k:Nat) {x:Value}{d:D} (h:RI w S x d):RI w S x (suD k d):=by
 induction h with
 | fn hn _ ih=>exact .fn (by rw [ka4];exact hn) fun i hi=>by rw [jw7];exact ih i hi
 | v h=>exact .v h
 | sl0=>exact .sl0
 | sl sz xs hb hcap hs hx hc _=>exact .sl sz xs hb hcap hs hx hc
 | ip xs hb hx hc _=>exact .ip xs hb hx hc
 | dead h=>exact .dead h
 | pr h k=>exact .pr h k
section
variable {C C':Cx}{w:World}{bs bs':List (Option Nat)} (hS:∀b,Sf C' w bs' b→Sf C w (bs++bs') b)
include hS
theorem R1.su {x:Value}{d:D} (h:R1 C' w bs' x d):R1 C w (bs++bs') x (suD bs.length d):=by
 have hl:∀(l b:Nat),bs'[l]?=some (some b)→(bs++bs')[bs.length+l]?=some (some b):=fun l b hb=>by rw [List.getElem?_append_right (by omega),Nat.add_sub_cancel_left];exact hb
 induction h with
 | im h=>exact .im ((h.mono fun b hb=>⟨hS b hb,rfl⟩).su _)
 | ptr h=>exact .ptr (hl _ _ h)
 | own h hs hn hc=>exact .own (hl _ _ h) hs hn hc
 | own0=>exact .own0
 | osl0=>exact .osl0
 | osl h hn=>exact .osl (hl _ _ h) hn
 | mp h=>exact .mp (hl _ _ h)
 | fn hn _ ih=>exact .fn (by rw [ka4];exact hn) fun i hi=>by rw [jw7];exact ih i hi
theorem RG0.su {x:Value}{d:D} (h:RG0 (R1 C' w bs') x d):RG0 (R1 C w (bs++bs')) x (suD bs.length d):=by
 cases d with
 | arr k n f=>obtain ⟨cs,a,b,c⟩:=h;exact ⟨cs,a,b,fun i hi=>(c i hi).su hS⟩
 | cons p q =>
  obtain ⟨cs,a,b,c⟩:=h
  refine ⟨cs,a,?_,fun i hi=>?_⟩
  ·show cs.size=nc (suD bs.length (.cons p q))
   rw [ka4];exact b
  ·show R1 C w (bs++bs') cs[i] (cell (suD bs.length (.cons p q)) i)
   rw [jw7];exact (c i hi).su hS
 | nil=>exact h
 | tup ps=>exact h.elim
 | dead=>trivial
 | _=>exact R1.su hS h
theorem TG.su:∀{vs:List Value}{d:D},TG (R1 C' w bs') vs d→TG (R1 C w (bs++bs')) vs (suD bs.length d)
 | [],.nil,_=>trivial
 | _::_,.cons _ _,h=>⟨h.1.su hS,TG.su h.2⟩
 | [],.cons _ _,h=>h.elim
 | [],.v _,h=>h.elim
 | [],.arr ..,h=>h.elim
 | [],.tup _,h=>h.elim
 | [],.sl ..,h=>h.elim
 | [],.ip _,h=>h.elim
 | [],.ptr ..,h=>h.elim
 | [],.own ..,h=>h.elim
 | [],.osl ..,h=>h.elim
 | [],.mp _,h=>h.elim
 | [],.fn ..,h=>h.elim
 | [],.dead,h=>h.elim
 | [],.pr _,h=>h.elim
 | _::_,.nil,h=>h.elim
 | _::_,.v _,h=>h.elim
 | _::_,.arr ..,h=>h.elim
 | _::_,.tup _,h=>h.elim
 | _::_,.sl ..,h=>h.elim
 | _::_,.ip _,h=>h.elim
 | _::_,.ptr ..,h=>h.elim
 | _::_,.own ..,h=>h.elim
 | _::_,.osl ..,h=>h.elim
 | _::_,.mp _,h=>h.elim
 | _::_,.fn ..,h=>h.elim
 | _::_,.dead,h=>h.elim
 | _::_,.pr _,h=>h.elim
theorem RV.su {x:Value}{d:D} (h:RV C' w bs' x d):RV C w (bs++bs') x (suD bs.length d):=by
 cases d with
 | tup ps=>obtain ⟨vs,a,b⟩:=h;exact ⟨vs,a,b.su hS⟩
 | _=>exact RG0.su hS (jj7 (by rfl) h)
end
theorem qg7 {E:Env}{C:Cx} (hE:EnvC E C) {o:Oper}{st:St}{f:FuncId}{g:Operand}{args:Array Operand}{ts:Array TypeId}{r:D}{H':List (Option Bk)}{xs:List D} (ho:o.op = .call { callee:=.value g,args:=args,argTypes:=ts }) (hd:dstB C o=true) (hf:fnB C.P f=true)
  (hx:ja9 C st o = .fn f .nil::xs) (hp:xs.all ja8=true) (hc:PH E f xs [] r H'):DO C o st (St.put ⟨st.s,st.h++H'.map (Option.map (suB st.h.length))⟩ o.dst (suD st.h.length r)):=by
 intro bs a w hr
 have ha:=All2.map (R:=RV C w bs) (f:=a.eval) (g:=evD C st) o.op.operands.toList (fun x _=>je2 hr x)
 have hargs:o.op.operands.toList.map (evD C st) = .fn f .nil::xs:=hx
 rw [hargs] at ha
 obtain ⟨vs,hrun,hv⟩:=jk5 (C:=C) (cs:=[]) (by simp) hf ho ha
 rw [List.append_nil] at hv
 have hw:=hr.wr
 have hG:=jr9 hE hw
 have hg:∀b,b<E.gN→Sf C w bs b:=by rw [hE.gN];exact Sf_g hw
 have hcall:=hc 0 w (Sf C w bs) [] vs (fun b hb=>⟨hb.2.1,by simp⟩)
  ⟨rfl,by simp,by simp,by simp,⟨rfl,rfl,rfl,Nat.le_refl _,fun _ _=>rfl⟩,fun b hb=>⟨⟨(hg b hb).2.1,by simp⟩,hg b hb⟩,hG.gl,hG.tok,hG.mix,fun b hb=>hb.1,fun i b hi=>by simp [mkG,fxP] at hi⟩
  (All2.imp (K:=fun d e=>d=e∧ja8 d=true) (fun a b c h1 h2=>by
   obtain ⟨rfl,h3⟩:=h2
   exact RG.imp h3 (fun _ _ hp' h=>.im ((h.pure hp').mono fun b hb=>⟨⟨.inl hb,hb.2.1,by simp⟩,rfl⟩)) h1) hv (All2.reflP fun x hx'=>⟨rfl,List.all_eq_true.1 hp x hx'⟩))
 rw [hE.P] at hcall
 rw [hrun]
 refine hcall.mono fun e w' ⟨x,bs',he,h2,hxr⟩=>⟨x,he,bs++bs',?_⟩
 have hfr:=h2.fr
 have hsz:w.heap.size≤w'.heap.size:=hfr.size
 have hbk:∀b,b<w.heap.size→w'.heap[b]?=w.heap[b]?:=fun b hb=>hfr.block b ⟨hb,by simp⟩
 have hnew:∀(i b:Nat),bs'[i]?=some (some b)→w.heap.size≤b∧b<w'.heap.size:=fun i b hi=>⟨Nat.le_of_not_lt fun hlt=>(h2.ok i b hi).2 ⟨hlt,by simp⟩,(h2.ok i b hi).1⟩
 have hlen:bs.length=st.h.length:=hw.len
 have hat:∀(i b:Nat),(bs++bs')[i]?=some (some b)→(i<bs.length∧bs[i]?=some (some b))∨(bs.length≤i∧bs'[i-bs.length]?=some (some b)):=fun i b hi=>by
  by_cases h:i<bs.length
  ·rw [List.getElem?_append_left h] at hi;exact .inl ⟨h,hi⟩
  ·rw [List.getElem?_append_right (by omega)] at hi;exact .inr ⟨by omega,hi⟩
 have hE2:Ext C w bs w' (bs++bs'):=by
  refine ⟨fun k hk=>⟨⟨hk.1,Nat.lt_of_lt_of_le hk.2.1 hsz,fun i hi=>?_⟩,hbk k hk.2.1⟩,fun i k hk=>⟨?_,jc8 (hbk k (hw.ok i k hk).1)⟩⟩
  ·rcases hat i k hi with ⟨_,h⟩|⟨_,h⟩
   ·exact hk.2.2 i h
   ·have:=(hnew _ _ h).1;have:=hk.2.1;omega
  ·have hi:i<bs.length:=(List.getElem?_eq_some_iff.1 hk).1
   rw [List.getElem?_append_left hi];exact hk
 have hS:∀b,Sf (hctx E 0 [] w (Sf C w bs) []) w' bs' b→Sf C w' (bs++bs') b:=fun b hb=>by
  obtain ⟨q1,q2,q3⟩:=hb
  have q1':Sf C w bs b∨w.heap.size≤b:=q1
  refine ⟨?_,q2,fun i hi=>?_⟩
  ·rcases q1' with h|h
   ·exact h.1
   ·exact .inr (Nat.le_trans hw.fr.size h)
  ·rcases hat i b hi with ⟨_,h⟩|⟨_,h⟩
   ·rcases q1' with h'|h'
    ·exact h'.2.2 i h
    ·have:=(hw.ok i b h).1;omega
   ·exact q3 _ h
 have hwr:WR C (st.h++H'.map (Option.map (suB st.h.length))) (bs++bs') w':=by
  refine ⟨by simp [hlen,h2.len],fun i j b hi hj=>?_,fun i b hi=>?_,fun i kk hk=>?_,?_,hw.gl,hw.g0,hw.tok,hw.mix,hw.s0,fun i b hi=>?_⟩
  ·rcases hat i b hi with ⟨h1,h3⟩|⟨h1,h3⟩<;>rcases hat j b hj with ⟨h4,h5⟩|⟨h4,h5⟩
   ·exact hw.inj i j b h3 h5
   ·have:=(hw.ok i b h3).1;have:=(hnew _ _ h5).1;omega
   ·have:=(hw.ok j b h5).1;have:=(hnew _ _ h3).1;omega
   ·have:=h2.inj _ _ b h3 h5;omega
  ·rcases hat i b hi with ⟨h1,h3⟩|⟨h1,h3⟩
   ·exact ⟨Nat.lt_of_lt_of_le (hw.ok i b h3).1 hsz,(hw.ok i b h3).2⟩
   ·refine ⟨(hnew _ _ h3).2,fun hs=>?_⟩
    have:=hw.s0 b hs
    have:=hw.fr.size
    have:=(hnew _ _ h3).1
    omega
  ·by_cases hi:i<st.h.length
   ·rw [List.getElem?_append_left hi] at hk
    rcases hw.blk i kk hk with ⟨b,hb,hB⟩|⟨T,sz,h0,h3⟩
    ·exact .inl ⟨b,(hE2.ow i b hb).1,hB.ext hE2 (hbk b (hw.ok i b hb).1)⟩
    ·exact .inr ⟨T,sz,h0,by rw [List.getElem?_append_left (by omega)];exact h3⟩
   ·rw [List.getElem?_append_right (by omega),List.getElem?_map,Option.map_eq_some_iff] at hk
    obtain ⟨k0,hk0,hk1⟩:=hk
    cases k0 with
    | none=>simp at hk1
    | some k1 =>
     simp only [Option.map_some,Option.some.injEq] at hk1
     subst hk1
     rw [← hlen] at hk0 ⊢
     rcases h2.blk _ k1 hk0 with ⟨b,hb,hB⟩|⟨T,sz,h0,h3⟩
     ·refine .inl ⟨b,by rw [List.getElem?_append_right (by omega)];exact hb,?_⟩
      cases k1 with
      | one d =>
       obtain ⟨cs,T,fz,e1,e2,e3,e4⟩:=hB
       exact ⟨cs,T,fz,e1,by rw [ka4];exact e2,e3,fun i hi=>by rw [jw7];exact (e4 i hi).su hS⟩
      | row L T sz =>
       obtain ⟨cs,fz,e1,e2,e3,e4,e5⟩:=hB
       exact ⟨cs,fz,e1,e2,e3,e4,fun i j hi hj=>let ⟨x,hx,hr⟩:=e5 i j hi hj;⟨x,hx,hr.mono fun b hb=>⟨hS b hb,rfl⟩⟩⟩
      | mp es clk =>
       obtain ⟨es',e1,e2⟩:=hB
       exact ⟨es',e1,e2.mapR fun _ _ k=>⟨k.1,k.2.1,k.2.2.su hS⟩⟩
      | it l since seen last =>
       obtain ⟨m,e1,e2⟩:=hB
       exact ⟨m,e1,by rw [List.getElem?_append_right (by omega),Nat.add_sub_cancel_left];exact e2⟩
      | any=>trivial
     ·subst h0
      exact .inr ⟨T,sz,rfl,by rw [List.getElem?_append_right (by omega)];exact h3⟩
  ·have hf0:=hw.fr
   exact ⟨hfr.os.trans hf0.os,hfr.tape.trans hf0.tape,hfr.output.trans hf0.output,Nat.le_trans hf0.size hsz,fun k hk=>(hbk k (by have:=hw.s0 k hk;have:=hf0.size;omega)).trans (hf0.block k hk)⟩
  ·obtain ⟨f1,f2⟩:=hw.fix i b hi
   exact ⟨(hE2.ow i b f1).1,(hE2.ow i b f1).2.trans f2⟩
 have:=hxr.su hS
 rw [hlen] at this
 exact Rel.put (st:=⟨st.s,st.h++H'.map (Option.map (suB st.h.length))⟩) ⟨hr.defers,hr.size,fun t=>RV.ext hE2 (hr.slots t),hwr⟩ (jd0 hd) this
theorem jm2 {E:Env}{C:Cx} (hE:EnvC E C) {o:Oper}{st:St}{f:FuncId}{g:Operand}{args:Array Operand}{ts:Array TypeId}{r r':D}{H' H2:List (Option Bk)}{xs:List D} (ho:o.op = .call { callee:=.value g,args:=args,argTypes:=ts }) (hd:dstB C o=true) (hf:fnB C.P f=true)
  (hx:ja9 C st o = .fn f .nil::xs:=by exact dsa) (hp:xs.all ja8=true:=by rfl) (hc:PH E f xs [] r H')
  (e1:H'.map (Option.map (suB st.h.length))=H2:=by simp only [suD,suB,List.map_cons,List.map_nil,Option.map,List.length_cons,List.length_nil,Nat.reduceAdd,Nat.add_zero,hX];exact rfl)
  (e2:suD st.h.length r=r':=by simp only [suD,List.length_cons,List.length_nil,Nat.reduceAdd,Nat.add_zero,hX];exact rfl):DO C o st (St.put ⟨st.s,st.h++H2⟩ o.dst r'):=by
 subst e1 e2
 exact qg7 hE ho hd hf hx hp hc
section
variable {p:Nat}{α:Type}{xs:List α}{z:α}{f:α→D}
variable {E:Env}{n:Nat}{w1:World}{A1 S1:Nat→Prop}{fx:Nat→Option Nat}{h:List (Option Bk)}{bs:List (Option Nat)}{W:World}{T sz:Nat}
abbrev A2 (A1:Nat→Prop) (bs:List (Option Nat)) (p:Nat):Nat→Prop:=fun x=>A1 x∨bs[p]?=some (some x)
end
theorem ki7 {E:Env}{f:FuncId}{args:List D}{d0 d1 r:D} (h:PH E f (.ptr 0 0::args) [some (.one d0)] r [some (.one d1)]) (h1:ja8 d1=true) (hr:ja8 r=true):PM E f d0 args d1 r:=by
 intro w S b T fz vs hG hS hg hSb hst hv
 obtain ⟨cs,g1,g2,g3,g4⟩:=hst
 have hblt:b<w.heap.size:=(Array.getElem?_eq_some_iff.1 g1).1
 have hSf:∀k,S k→Sf (hctx E 0 [0] w S [some b]) w [some b] k:=fun k hk=>⟨.inl hk,hS k hk,fun i hi=>by
  rcases i with _|i
  ·simp at hi;subst hi;exact hSb hk
  ·simp at hi⟩
 have hone:∀(i k:Nat),([some b]:List (Option Nat))[i]?=some (some k)→i=0∧k=b:=fun i k hi=>by
  rcases i with _|i
  ·simp at hi;exact ⟨rfl,hi.symm⟩
  ·simp at hi
 have hW:WR (hctx E 0 [0] w S [some b]) [some (.one d0)] [some b] w:=by
  refine ⟨rfl,fun i j k hi hj=>by rw [(hone i k hi).1,(hone j k hj).1],fun i k hi=>?_,fun i k hk=>?_,⟨rfl,rfl,rfl,Nat.le_refl _,fun _ _=>rfl⟩,fun k hk=>⟨⟨hS k (hg k hk),fun i hi=>?_⟩,hg k hk⟩,hG.gl,hG.tok,hG.mix,fun k hk=>hk.1,fun i k hi=>?_⟩
  ·obtain ⟨rfl,rfl⟩:=hone i k hi
   exact ⟨hblt,fun hh=>hh.2 0 rfl⟩
  ·rcases i with _|i
   ·simp at hk
    subst hk
    exact .inl ⟨b,rfl,cs,T,fz,g1,g2,g3,fun i hi=>.im ((g4 i hi).mono fun k hk=>⟨hSf k hk,rfl⟩)⟩
   ·simp at hk
  ·obtain ⟨_,rfl⟩:=hone i k hi
   exact hSb (hg _ hk)
  ·simp only [mkG,fxP] at hi
   split at hi
   ·rename_i hc
    obtain rfl:i=0:=by simpa using hc
    simp at hi
    subst hi
    exact ⟨rfl,rfl⟩
   ·cases hi
 have hcall:=h 0 w S [some b] (#[.pointer (some ⟨b,0,none⟩)]++vs) (fun k hk=>⟨hS k hk,fun i hi=>by obtain ⟨_,rfl⟩:=hone i k hi;exact hSb hk⟩) hW (by
  rw [Array.toList_append]
  exact .cons (R1.ptr rfl) (All2.imp (K:=fun a b=>a=b) (fun a b c h1 h2=>by subst h2;exact RG.mono (fun x d hr=>.im (hr.mono fun k hk=>⟨hSf k hk,rfl⟩)) h1) hv (All2.reflP fun _ _=>rfl)))
 refine hcall.mono fun e w' ⟨x,bs',he,h2,hxr⟩=>?_
 have hfr:=h2.fr
 obtain ⟨f1,f2⟩:=h2.fix 0 b (by simp [mkG,fxP])
 obtain ⟨cs',T',fz',k1,k2,k3,k4⟩:=h2.at (l:=0) rfl f1
 have hT:T'=T:=by
  have a1:w'.shape? b=some (T',cs'.size):=by unfold World.shape?;rw [k1]
  have a2:w.shape? b=some (T,cs.size):=by unfold World.shape?;rw [g1]
  have a3:w'.shape? b=w.shape? b:=f2
  rw [a1,a2] at a3
  simp at a3
  exact a3.1
 subst hT
 have hS':∀k,Sf (hctx E 0 [0] w S [some b]) w' bs' k→((S k∨w.heap.size≤k)∧k<w'.heap.size∧k≠b)∧w'.heap[k]?=w'.heap[k]?:=fun k hk=>⟨⟨hk.1,hk.2.1,fun e=>hk.2.2 0 (by rw [e];exact f1)⟩,rfl⟩
 refine ⟨x,he,⟨hfr.os,hfr.tape,hfr.output,hfr.size,fun k hk=>hfr.block k ⟨hk.1,fun i hi=>hk.2 (hone i k hi).2⟩⟩,f2,⟨fz',cs',k1,k2,k3,fun i hi=>((k4 i hi).pure (jh2 h1 i)).mono hS'⟩,?_⟩
 exact RG.imp hr (fun _ _ hp' h=>(h.pure hp').mono hS') hxr
theorem WeakX.takeP {E:Env}{n:Nat}{pins:List Nat}{l:List (Nat×D)}{h h':List (Option Bk)} (k:Nat) (hpk:pins.all (Nat.blt · k)=true) (hs:l.all (fun p=>ltB k p.2)=true) (hb:(h.take k).all (ltBk k)=true) (eh:h.take k=h'):WeakX E n pins (mk l h) (mk l h'):=fun _ _ _ _=>eh ▸ Weak.take k (fun i b hi=>by
 simp only [mkG,fxP] at hi
 split at hi
 ·rename_i hc
  have:=List.all_eq_true.1 hpk i (by simpa using hc)
  simpa using this
 ·cases hi) hs hb
section
variable {md:Region.Mode}{ops:Array Oper}
variable {C:Cx}
end
def eqSs (T:Nat→Option TE) (rec:Nat→D→D→Option (Prop×Bool)):List (Nat×Nat)→D→D→Option (Prop×Bool)
 | [],_,_=>some (True,true)
 | (ft,off)::fs,a,b=>match T ft with
  | some e=>match sub (aggT e.d) e.sz true a off,sub (aggT e.d) e.sz true b off with
   | some (p,x),some (q,y)=>match rec ft x y,eqSs T rec fs a b with
    | some (p1,r),some (p2,r2)=>some (p∧q∧p1∧p2,r&&r2)
    | _,_=>none
   | _,_=>none
  | none=>none
def eqS (T:Nat→Option TE):Nat→Nat→D→D→Option (Prop×Bool)
 | 0,_,_,_=>none
 | m+1,t,a,b=>match T t with
  | some ⟨.int _,_,_,_⟩=>match a,b with
   | .v (.int k x),.v (.int k' y)=>if k=k' then some (True,decide (x=y)) else none
   | _,_=>none
  | some ⟨.bool,_,_,_⟩=>match a,b with
   | .v (.bool x),.v (.bool y)=>some (True,x==y)
   | _,_=>none
  | some ⟨.str,_,_,_⟩=>match a,b with
   | .v (.string x),.v (.string y)=>some (True,decide (L x=L y))
   | _,_=>none
  | some ⟨.array n el,_,_,_⟩=>match T el,a,b with
   | some ⟨.int _,1,_,_⟩,.arr k p f,.arr k' p' g=>if k=k'∧p=n∧p'=n then some (True,decide ((List.range n).map f=(List.range n).map g)) else none
   | _,_,_=>none
  | some ⟨.struct fs,_,_,_⟩=>if (aggB a&&aggB b)=true then eqSs T (eqS T m) fs a b else none
  | _=>none
def okEq (P:Program):Nat→Nat→Bool
 | 0,_=>false
 | m+1,t=>match P.underlying t with
  | some (.struct fs)=>!P.stoodInHeld t&&fs.toList.all fun f=>f.name != "_" && okEq P m f.type
  | some _=>true
  | none=>false
section
variable {C:Cx}{h:List (Option Bk)}{bs:List (Option Nat)}{w:World}
theorem kn4 (hw:WR C h bs w) {dd:Nat}{rec:Nat→D→D→Option (Prop×Bool)}{m:Nat} (hrec:∀t a b p r x y,okEq C.P m t=true→rec t a b=some (p,r)→p→RV C w bs x a→RV C w bs y b→(Op.equalIn dd t x y).run C.P w = .ok r w) :
  ∀(fs:List Field) (a b:D) (xs ys:Array Value) (p:Prop) (r:Bool),(fs.all fun f=>f.name != "_" && okEq C.P m f.type)=true→xs.size=nc a→ys.size=nc b→(∀i (hi:i<xs.size),R1 C w bs xs[i] (cell a i))→(∀i (hi:i<ys.size),R1 C w bs ys[i] (cell b i)) →
   eqSs C.T rec (fs.map fun f=>(f.type,f.offset)) a b=some (p,r)→p→(Op.eqFields dd xs ys fs).run C.P w = .ok r w
 | [],_,_,_,_,p,r,_,_,_,_,_,he,_=>by
  simp only [List.map_nil,eqSs,Option.some.injEq,Prod.mk.injEq] at he
  obtain ⟨_,rfl⟩:=he
  simp [Op.eqFields]
 | f::fs,a,b,xs,ys,p,r,hok,hx,hy,cx,cy,he,hp=>by
  simp only [List.all_cons,Bool.and_eq_true,bne_iff_ne] at hok
  simp only [List.map_cons,eqSs] at he
  split at he
  ·rename_i e hT
   split at he
   ·rename_i p1 x1 p2 y1 hs1 hs2
    split at he
    ·rename_i q1 r1 q2 r2 hr1 hr2
     simp only [Option.some.injEq,Prod.mk.injEq] at he
     obtain ⟨rfl,rfl⟩:=he
     obtain ⟨h1,h2,h3,h4⟩:=hp
     obtain ⟨vx,e1,e2⟩:=jt9 hw hT hs1 h1 hx cx
     obtain ⟨vy,e3,e4⟩:=jt9 hw hT hs2 h2 hy cy
     have k1:=hrec _ _ _ _ _ _ _ hok.1.2 hr1 h3 e2 e4
     have k2:=kn4 hw hrec fs a b xs ys _ _ hok.2 hx hy cx cy hr2 h4
     simp only [Op.eqFields,if_pos hok.1.1,Sem.run_bind,e1,e3,k1,Result.andThen_ok]
     cases r1
     ·simp
     ·simpa using k2
    ·cases he
   ·cases he
  ·cases he
theorem kv5 (hw:WR C h bs w) (d:Nat):∀(m t:Nat) (a b:D) (p:Prop) (r:Bool) (x y:Value),okEq C.P m t=true→eqS C.T m t a b=some (p,r)→p→RV C w bs x a→RV C w bs y b→(Op.equalIn (d+m+1) t x y).run C.P w = .ok r w
 | 0,_,_,_,_,_,_,_,_,he,_,_,_=>by cases he
 | m+1,t,a,b,p,r,x,y,hok,he,hp,hx,hy=>by
  unfold eqS at he
  split at he
  ·rename_i hT
   obtain ⟨ti,dt,_,hF,_⟩:=jb9 hw.tok hT
   have hd:=hF.desc
   cases dt<;>simp only [jd2] at hd<;>try cases hd
   split at he<;>try (cases he;done)
   split at he<;>try (cases he;done)
   rename_i hk
   subst hk
   simp only [Option.some.injEq,Prod.mk.injEq] at he
   obtain ⟨_,rfl⟩:=he
   rw [(RV_v hx).1,(RV_v hy).1,run_equalIn_int w _ t _ _ _ _ hF.und]
   congr 1
  ·rename_i hT
   obtain ⟨ti,dt,_,hF,_⟩:=jb9 hw.tok hT
   have hd:=hF.desc
   cases dt<;>simp only [jd2] at hd<;>try cases hd
   split at he<;>try (cases he;done)
   simp only [Option.some.injEq,Prod.mk.injEq] at he
   obtain ⟨_,rfl⟩:=he
   rw [(RV_v hx).1,(RV_v hy).1,run_equalIn_bool' w _ t _ _ hF.und]
  ·rename_i hT
   obtain ⟨ti,dt,_,hF,_⟩:=jb9 hw.tok hT
   have hd:=hF.desc
   cases dt<;>simp only [jd2] at hd<;>try cases hd
   split at he<;>try (cases he;done)
   simp only [Option.some.injEq,Prod.mk.injEq] at he
   obtain ⟨_,rfl⟩:=he
   rw [(RV_v hx).1,(RV_v hy).1,run_equalIn_string w _ t _ _ hF.und]
   congr 1
   rw [jz3,jz3,Bool.eq_iff_iff]
   simp
  ·rename_i n el b1 b2 z1 hT
   split at he<;>try (cases he;done)
   rename_i kk b3 z3 k m1 f k' m2 g hE
   split at he<;>try (cases he;done)
   rename_i hc
   obtain ⟨rfl,rfl,rfl⟩:=hc
   simp only [Option.some.injEq,Prod.mk.injEq] at he
   obtain ⟨_,rfl⟩:=he
   obtain ⟨ti,dt,_,hF,_⟩:=jb9 hw.tok hT
   obtain ⟨ti2,de,_,hF2,_⟩:=jb9 hw.tok hE
   have hd:=hF.desc
   have hd2:=hF2.desc
   cases dt<;>simp only [jd2] at hd<;>try cases hd
   simp only [Bool.and_eq_true,beq_iff_eq] at hd
   obtain ⟨rfl,rfl⟩:=hd
   cases de<;>simp only [jd2] at hd2<;>try cases hd2
   obtain ⟨cs,e1,e2,e3⟩:=hx
   obtain ⟨cs',f1,f2,f3⟩:=hy
   have hcell:∀(zs:Array Value) (φ:Nat→Int),(∀i (hi:i<zs.size),R1 C w bs zs[i] (cell (.arr k zs.size φ) i))→∀i,i<zs.size→zs[i]?=some (.int k (φ i)):=fun zs φ hz i hi=>by
    have:=hz i hi
    rw [Array.getElem?_eq_getElem hi]
    have h5:RV C w bs zs[i] (.v (.int k (φ i))):=this
    rw [(RV_v h5).1]
   subst e2
   have hsz:C.P.cellsOf el=1:=by
    have:=hF2.size
    have hi:=hF2.info
    simp only [Program.cellsOf,hi]
    simpa using this
   rw [e1,f1,run_equalIn_array w (d+(m+1)) cs cs' hF.und hF2.info,hsz]
   exact jm9 (k1:=k) (k2:=k) w (d+m) hF2.und cs cs' f g rfl _ fun i hi=>by
    have hi':i<cs.size:=by simpa using hi
    exact ⟨hcell cs f e3 i hi',hcell cs' g (fun i hi=>f3 i hi) i (by omega)⟩
  ·rename_i fs b1 b2 z1 hT
   split at he<;>try (cases he;done)
   rename_i hc
   simp only [Bool.and_eq_true] at hc
   obtain ⟨ti,dt,_,hF,_⟩:=jb9 hw.tok hT
   have hd:=hF.desc
   cases dt<;>simp only [jd2] at hd<;>try cases hd
   rename_i gs
   simp only [beq_iff_eq] at hd
   obtain ⟨cs,e1,e2,e3⟩:=(jk0 hc.1).1 hx
   obtain ⟨cs',f1,f2,f3⟩:=(jk0 hc.2).1 hy
   have hu:=hF.und
   have hfo:C.P.fieldsOf t=gs:=by unfold Program.fieldsOf;rw [hu]
   unfold okEq at hok
   rw [hu] at hok
   simp only [Bool.and_eq_true,Bool.not_eq_true'] at hok
   rw [e1,f1,run_equalIn_struct w (d+(m+1)) t cs cs' (by rw [hfo];exact hu) hok.1,hfo]
   rw [← hd] at he
   exact kn4 hw (m:=m) (dd:=d+(m+1)) (fun t a b p r x y k1 k2 k3 k4 k5=>kv5 hw d m t a b p r x y k1 k2 k3 k4 k5) gs.toList a b cs cs' p r hok.2 e2 f2 e3 f3 he hp
  ·cases he
end
theorem kz5 {C:Cx}{o:Oper}{h:List (Option Bk)}{op:BinOp}{t u:Nat}{x y:Operand}{a b:D}{p:Prop}{r:Bool} (m:Nat) (ho:o.op = .binOp op t x y u) (hop:op = .eql∨op = .neq) (hm:C.P.eqGuardType C.P.depth t=false) (hk:okEq C.P m t=true) (ha:aggB a=true) (hb:aggB b=true) (hm':m≤9000) (hf:eqS C.T m t a b=some (p,r)) (hp:p):DQ C o [a,b] h (.v (.bool (if op = .eql then r else !r))):=jf1 fun bs w ρ hw hargs=>by
 rw [ho] at hargs
 obtain ⟨a',b',h1,h2,h3⟩:=All2.two (a:=x) (b:=y) hargs
 cases h1
 obtain ⟨cs,e1,e2,e3⟩:=(jk0 ha).1 h2
 obtain ⟨cs',f1,f2,f3⟩:=(jk0 hb).1 h3
 have hq:=kv5 hw (9999-m) m t a b p r _ _ hk hf hp h2 h3
 rw [show 9999-m+m+1=10000 by omega,e1,f1] at hq
 have he:=run_eqGuard_agg w op t x y cs cs' hm
 refine ⟨_,?_,R1.im (.v rfl)⟩
 rcases hop with rfl|rfl
 ·simp [execOp,ho,e1,f1,Sem.run_bind,he,run_eql_struct,hq]
 ·simp [execOp,ho,e1,f1,Sem.run_bind,he,run_neq_struct,hq]
section
variable {md:Region.Mode}{ops:Array Oper}
variable {C:Cx}
end
structure InvA (md:Region.Mode) (ops:Array Oper) (n:Nat) (lp:Array Bool):Prop where
 size:lp.size=ops.size
 closed:∀j oj,j≠n+2→ops[j]?=some oj→lp.getD j false=true→∀e ∈ oj.after,Region.binds md e=true→lp.getD e.on false=true
 tail:∀t,n≤t→t≠n+2→t<ops.size→lp.getD t true=false
 made:lp.getD (n+2) false=true
section
variable {md:Region.Mode}{ops:Array Oper}
theorem InvA.set {n i:Nat}{lp:Array Bool} (inv:InvA md ops n lp) (hi:i ∈ Region.ready md ops lp) (hin:i<n):InvA md ops n (lp.setIfInBounds i true):=by
 obtain ⟨_,oi,hoi,hall⟩:=mem_ready.1 hi
 refine ⟨by simp [inv.size],fun j oj hjp hj hl e he hb=>?_,fun t ht hp ht'=>by rw [getD_set_ne true (by omega)];exact inv.tail t ht hp ht',getD_set_true inv.made⟩
 by_cases hij:i=j
 ·subst hij
  have:oj=oi:=Option.some.inj (hj.symm.trans hoi)
  subst this
  exact getD_set_true (hall e he hb)
 ·rw [getD_set_ne false hij] at hl
  exact getD_set_true (inv.closed j oj hjp hj hl e he hb)
variable {C:Cx}
def YD2 (C:Cx) (o:Oper) (z:Bk) (d:D) (st:St):Prop:=dstB C o=true∧o.guard=none∧DQ C o (ja9 C st o) st.h d∧DQ C o (ja9 C st o) (st.h++[some z]) d
theorem YD2.put {o:Oper}{z:Bk}{d:D}{st:St} (hy:YD2 C o z d st) {dst:Option Tmp}{e:D} (h:∀t,dst=some t→t ∉ o.looksAt ops):YD2 C o z d (st.put dst e):=by
 refine ⟨hy.1,hy.2.1,?_⟩
 rw [jq7 h,jx3]
 exact hy.2.2
theorem YD2.unput {o:Oper}{z:Bk}{d:D}{st:St}{dst:Option Tmp}{e:D} (h:∀t,dst=some t→t ∉ o.looksAt ops) (hy:YD2 C o z d (st.put dst e)):YD2 C o z d st:=by
 refine ⟨hy.1,hy.2.1,?_⟩
 have h2:=hy.2.2
 rw [jq7 h,jx3] at h2
 exact h2
section
variable {df:List Deferred}{Q:Exit→Act→World→Prop}{z:Bk}
end
end
section
variable {C:Cx}{K:St→Prop}{o:Oper}{rest:List Oper}{σ:Nat→D}{h:List (Option Bk)}{z:Bk}
end
section
variable {C:Cx}{ops:Array Oper}{K:St→Prop}{o:Oper}{rest:List Oper}{s:Nat→D}{h:List (Option Bk)}{op:BinOp}{ty u:Nat}{x y:Operand}{a b:D}{p:Prop}{r r':Bool}
theorem eqsx (m t:Nat) (hg:o.guard=none) (hd:o.dst=some t) (ht':Nat.blt t C.n=true) (ho:o.op = .binOp op ty x y u) (hop:op = .eql∨op = .neq) (hm:C.P.eqGuardType C.P.depth ty=false) (hk:okEq C.P m ty=true) (hm':Nat.ble m 9000=true) (k:DR C ops K rest ⟨upd s t (.v (.bool r')),h⟩)
  (e:ja9 C ⟨s,h⟩ o=[a,b]:=by exact dsx) (ha:aggB a=true:=by rfl) (hb:aggB b=true:=by rfl) (hf:eqS C.T m ty a b=some (p,r):=by exact dz15)
  (hp:p:=by (repeat' (with_reducible apply And.intro))<;>first|(with_reducible exact True.intro)|omega|exact lnx|(intro d hd;simp only [List.mem_cons,List.not_mem_nil,or_false] at hd;(first|(subst hd;first|trivial|exact ⟨rfl,rfl⟩)|(rcases hd with rfl|rfl<;>first|trivial|exact ⟨rfl,rfl⟩)|(rcases hd with rfl|rfl|rfl<;>first|trivial|exact ⟨rfl,rfl⟩)|(rcases hd with rfl|rfl|rfl|rfl<;>first|trivial|exact ⟨rfl,rfl⟩)|(rcases hd with rfl|rfl|rfl|rfl|rfl<;>first|trivial|exact ⟨rfl,rfl⟩)|(rcases hd with rfl|rfl|rfl|rfl|rfl|rfl<;>first|trivial|exact ⟨rfl,rfl⟩)|(rcases hd with rfl|rfl|rfl|rfl|rfl|rfl|rfl<;>first|trivial|exact ⟨rfl,rfl⟩)|(rcases hd with rfl|rfl|rfl|rfl|rfl|rfl|rfl|rfl<;>first|trivial|exact ⟨rfl,rfl⟩)|(rcases hd with rfl|rfl|rfl|rfl|rfl|rfl|rfl|rfl|rfl<;>first|trivial|exact ⟨rfl,rfl⟩)))|(intro d hd;simp only [List.mem_map,List.mem_cons,List.not_mem_nil,or_false] at hd;obtain ⟨i,_,rfl⟩:=hd;first|trivial|exact ⟨rfl,rfl⟩)|(intro d hd;simp only [List.mem_append,List.mem_map,List.mem_cons,List.not_mem_nil,or_false] at hd;rcases hd with ⟨i,_,rfl⟩|rfl<;>first|trivial|exact ⟨rfl,rfl⟩)|(intro i hi;rfl)|rfl) (er:(if op = .eql then r else !r)=r':=by exact dz16):DR C ops K (o::rest) ⟨s,h⟩:=by
 subst er
 exact DR_c t hg hd ht' e (kz5 m ho hop hm hk ha hb (by simpa using hm') hf hp) k
theorem qp2 (m t:Nat) (hg:o.guard=none) (hd:o.dst=some t) (ht':Nat.blt t C.n=true) (ho:o.op = .binOp op ty x y u) (hop:op = .eql∨op = .neq) (hm:C.P.eqGuardType C.P.depth ty=false) (hk:okEq C.P m ty=true) (hm':Nat.ble m 9000=true) (k:DRq C ops K rest ⟨upd s t (.v (.bool r')),h⟩)
  (e:ja9 C ⟨s,h⟩ o=[a,b]:=by exact dsx) (ha:aggB a=true:=by rfl) (hb:aggB b=true:=by rfl) (hf:eqS C.T m ty a b=some (p,r):=by exact dz15)
  (hp:p:=by (repeat' (with_reducible apply And.intro))<;>first|(with_reducible exact True.intro)|omega|exact lnx|(intro d hd;simp only [List.mem_cons,List.not_mem_nil,or_false] at hd;(first|(subst hd;first|trivial|exact ⟨rfl,rfl⟩)|(rcases hd with rfl|rfl<;>first|trivial|exact ⟨rfl,rfl⟩)|(rcases hd with rfl|rfl|rfl<;>first|trivial|exact ⟨rfl,rfl⟩)|(rcases hd with rfl|rfl|rfl|rfl<;>first|trivial|exact ⟨rfl,rfl⟩)|(rcases hd with rfl|rfl|rfl|rfl|rfl<;>first|trivial|exact ⟨rfl,rfl⟩)|(rcases hd with rfl|rfl|rfl|rfl|rfl|rfl<;>first|trivial|exact ⟨rfl,rfl⟩)|(rcases hd with rfl|rfl|rfl|rfl|rfl|rfl|rfl<;>first|trivial|exact ⟨rfl,rfl⟩)|(rcases hd with rfl|rfl|rfl|rfl|rfl|rfl|rfl|rfl<;>first|trivial|exact ⟨rfl,rfl⟩)|(rcases hd with rfl|rfl|rfl|rfl|rfl|rfl|rfl|rfl|rfl<;>first|trivial|exact ⟨rfl,rfl⟩)))|(intro d hd;simp only [List.mem_map,List.mem_cons,List.not_mem_nil,or_false] at hd;obtain ⟨i,_,rfl⟩:=hd;first|trivial|exact ⟨rfl,rfl⟩)|(intro d hd;simp only [List.mem_append,List.mem_map,List.mem_cons,List.not_mem_nil,or_false] at hd;rcases hd with ⟨i,_,rfl⟩|rfl<;>first|trivial|exact ⟨rfl,rfl⟩)|(intro i hi;rfl)|rfl) (er:(if op = .eql then r else !r)=r':=by exact dz16):DRq C ops K (o::rest) ⟨s,h⟩:=by
 subst er
 exact jw2 t hg hd ht' e (kz5 m ho hop hm hk ha hb (by simpa using hm') hf hp) k
end
end Go.Proofs.YtlhdeplkmghniaaDoor
